/- Contracts. -/
import Derived.Test.YtcdeccnjlkkejaaGreatDoorTx
import Derived.Test.YtcdeccnjlkkejaaGreatDoorIp
import Derived.Test.YtcdeccnjlkkejaaGreatDoorLf
import Derived.Test.YtcdeccnjlkkejaaGreatDoorPa
noncomputable section
set_option linter.unusedSimpArgs false
set_option linter.unusedVariables false
namespace Go.Lv.VT
set_option maxRecDepth 100000
open Go.Proofs
theorem okC{con:Con I}{A:Env0 I}{exS:StSh}(f:Go.Func)(hS: ∀c∈A.S,zm Tryz.prog c)(hf:Tryz.prog.funcs[con.f]? =some f)(h:chk con A f=true)(he: ∀x,evF2 A T FK f.ntmps (rsl f) (body f) con exS x=con.F x):zm Tryz.prog con:=
 okC0 mixed ipOK tok rfl rfl hS hf h he
def Du(F:List zb×Int->Option Int):Con I:=⟨58,⟨[.sl 49, .int .i64],[]⟩,[],⟨[.int .i64],[]⟩,0,F⟩
def Wy(F:Int->Option Int):Con I:=⟨25,⟨[.int .u8],[]⟩,[],⟨[.int .u8],[]⟩,0,F⟩
def Uo(F:List zb->Option Int):Con I:=⟨59,⟨[.sl 49],[]⟩,[],⟨[.int .i64],[]⟩,0,F⟩
def pK(F:List zb->Option Bool):Con I:=⟨15,⟨[.sl 49],[]⟩,[],⟨[.bool],[]⟩,0,F⟩
def Lu(F:List zb->Option (List zg)):Con I:=⟨36,⟨[.sl 49],[]⟩,[],⟨[.sl 44],[]⟩,0,F⟩
def Ku(F:List zb×Int->Option Bool):Con I:=⟨66,⟨[.sl 49, .int .u8],[]⟩,[],⟨[.bool],[]⟩,0,F⟩
def sK(F:List zb->Option Int):Con I:=⟨27,⟨[.sl 49],[]⟩,[],⟨[.int .i64],[]⟩,0,F⟩
def Qp(F:Str×Str->Option Bool):Con I:=⟨130,⟨[.str, .str],[]⟩,[],⟨[.bool],[]⟩,0,F⟩
def zT(F:Str×Str->Option Bool):Con I:=⟨93,⟨[.str, .str],[]⟩,[],⟨[.bool],[]⟩,0,F⟩
def oM(F:za->Option za):Con I:=⟨100,⟨[.optr 0],[(0, .row 133)]⟩,[],⟨[],[(0, .row 133)]⟩,0,F⟩
def zq(F:Int×za->Option Int):Con I:=⟨137,⟨[.optr 0, .int .i64],[(0, .row 133)]⟩,[0],⟨[.int .i64],[]⟩,0,F⟩
def QW(F:Int->Option Bool):Con I:=⟨138,⟨[.int .i64],[]⟩,[],⟨[.bool],[]⟩,0,F⟩
def qF(F:za->Option za):Con I:=⟨139,⟨[.optr 0, .clo 138 []],[(0, .row 133)]⟩,[],⟨[],[(0, .row 133)]⟩,0,F⟩
def QJ(F:Int->Option (List UInt8)):Con I:=⟨237,⟨[.nilv, .int .i32],[]⟩,[],⟨[.own 0],[(0, .sl 5)]⟩,1,F⟩
def OM(F:Int->Option (List UInt8)):Con I:=⟨210,⟨[.nilv, .int .i32],[]⟩,[],⟨[.own 0],[(0, .sl 5)]⟩,1,F⟩
def Ju(F:Int×Int×Int->Option Bool):Con I:=⟨212,⟨[.int .i64, .int .i64, .int .i64],[]⟩,[],⟨[.bool],[]⟩,0,F⟩
def QV(F:Int->Option Bool):Con I:=⟨174,⟨[.int .i64],[]⟩,[],⟨[.bool],[]⟩,0,F⟩
def BD(F:Int->Option Int):Con I:=⟨211,⟨[.int .i64],[]⟩,[],⟨[.int .i64],[]⟩,0,F⟩
def iM(F:za->Option (za×List UInt8)):Con I:=⟨172,⟨[.optr 0, .nilv],[(0, .row 133)]⟩,[],⟨[.own 1],[(0, .row 133),(1, .sl 5)]⟩,1,F⟩
def QK(F:Int×List UInt8->Option (List UInt8)):Con I:=⟨237,⟨[.own 0, .int .i32],[(0, .sl 5)]⟩,[],⟨[.own 1],[(1, .sl 5)]⟩,1,F⟩
def NM(F:Int×List UInt8->Option (List UInt8)):Con I:=⟨210,⟨[.own 0, .int .i32],[(0, .sl 5)]⟩,[],⟨[.own 1],[(1, .sl 5)]⟩,1,F⟩
def ZO(F:za×List UInt8->Option (za×List UInt8)):Con I:=⟨172,⟨[.optr 0, .own 1],[(0, .row 133),(1, .sl 5)]⟩,[],⟨[.own 2],[(0, .row 133),(2, .sl 5)]⟩,1,F⟩
def sM(F:za->Option (zg×za)):Con I:=⟨140,⟨[.optr 0],[(0, .row 133)]⟩,[],⟨[.val 44],[(0, .row 133)]⟩,0,F⟩
def lD(F:Int->Option Bool):Con I:=⟨173,⟨[.int .i64],[]⟩,[],⟨[.bool],[]⟩,0,F⟩
def wD(F:Int->Option Bool):Con I:=⟨141,⟨[.int .i64],[]⟩,[],⟨[.bool],[]⟩,0,F⟩
def Zm(F:Int×za->Option Bool):Con I:=⟨142,⟨[.optr 0, .int .i64],[(0, .row 133)]⟩,[0],⟨[.bool],[]⟩,0,F⟩
def OE(F:Int×za->Option Bool):Con I:=⟨143,⟨[.optr 0, .int .i64],[(0, .row 133)]⟩,[0],⟨[.bool],[]⟩,0,F⟩
def qX(F:za->Option (Str×za)):Con I:=⟨144,⟨[.optr 0],[(0, .row 133)]⟩,[],⟨[.str],[(0, .row 133)]⟩,0,F⟩
def uM(F:za->Option Bool):Con I:=⟨145,⟨[.optr 0],[(0, .row 133)]⟩,[0],⟨[.bool],[]⟩,0,F⟩
def jM(F:za->Option za):Con I:=⟨139,⟨[.optr 0, .clo 174 []],[(0, .row 133)]⟩,[],⟨[],[(0, .row 133)]⟩,0,F⟩
def mM(F:za->Option (Bool×za)):Con I:=⟨175,⟨[.optr 0],[(0, .row 133)]⟩,[],⟨[.bool],[(0, .row 133)]⟩,0,F⟩
def PM(F:Str->Option Int):Con I:=⟨176,⟨[.str],[]⟩,[],⟨[.int .i64],[]⟩,0,F⟩
def lM(F:za->Option (zg×za)):Con I:=⟨146,⟨[.optr 0],[(0, .row 133)]⟩,[],⟨[.val 44],[(0, .row 133)]⟩,0,F⟩
def ay(F:Str->Option Str):Con I:=⟨108,⟨[.str],[]⟩,[],⟨[.str],[]⟩,0,F⟩
def gy(F:Str×Str->Option Bool):Con I:=⟨109,⟨[.str, .str],[]⟩,[],⟨[.bool],[]⟩,0,F⟩
def UM(F:za->Option (zg×za)):Con I:=⟨216,⟨[.optr 0],[(0, .row 133)]⟩,[],⟨[.val 44],[(0, .row 133)]⟩,0,F⟩
def TM(F:za->Option (zg×za)):Con I:=⟨177,⟨[.optr 0],[(0, .row 133)]⟩,[],⟨[.val 44],[(0, .row 133)]⟩,0,F⟩
def fM(F:za->Option (zg×za)):Con I:=⟨147,⟨[.optr 0],[(0, .row 133)]⟩,[],⟨[.val 44],[(0, .row 133)]⟩,0,F⟩
def ZH(F:Str×Int->Option Int):Con I:=⟨119,⟨[.str, .int .u8],[]⟩,[],⟨[.int .i64],[]⟩,0,F⟩
def XM(F:za->Option (zg×za)):Con I:=⟨101,⟨[.optr 0],[(0, .row 133)]⟩,[],⟨[.val 44],[(0, .row 133)]⟩,0,F⟩
def VM(F:(zg×Int×Int)×List zg->Option (List zg)):Con I:=⟨70,⟨[.val 44, .int .i64, .int .i64, .optr 0],[(0, .cells 22 [.own 1]),(1, .sl 44)]⟩,[],⟨[],[(0, .cells 22 [.own 2]),(2, .sl 44)]⟩,1,F⟩
def dL(F:Str->Option (Int×List zg)):Con I:=⟨69,⟨[.str, .clo 70 [0]],[(0, .cells 22 [.nilv])]⟩,[],⟨[.int .i64],[(0, .cells 22 [.own 1]),(1, .sl 44)]⟩,1,F⟩
def xD(F:Str->Option (List zg×Int)):Con I:=⟨33,⟨[.str],[]⟩,[],⟨[.sl 44, .int .i64],[]⟩,0,F⟩
def QU(F:Int->Option Int):Con I:=⟨61,⟨[.int .u8],[]⟩,[],⟨[.int .u8],[]⟩,0,F⟩
def Vt(F:List zb×Int->Option zn):Con I:=⟨65,⟨[.sl 49, .int .u8],[]⟩,[],⟨[.val 101],[]⟩,0,F⟩
def Mo(F:List zb->Option Int):Con I:=⟨32,⟨[.sl 49],[]⟩,[],⟨[.int .i64],[]⟩,0,F⟩
def bM(F:List zb->Option (List zb)):Con I:=⟨98,⟨[.sl 49],[]⟩,[],⟨[.own 0],[(0, .sl 49)]⟩,1,F⟩
def Ko(F:List zb->Option (List zb)):Con I:=⟨67,⟨[.sl 49],[]⟩,[],⟨[.sl 49],[]⟩,0,F⟩
def UD(F:List zb×Int->Option (List (List zb)×Int)):Con I:=⟨28,⟨[.sl 49, .int .u8],[]⟩,[],⟨[.sl 23, .int .i64],[]⟩,0,F⟩
def uj(F:zb×Int->Option Bool):Con I:=⟨91,⟨[.val 49, .int .u8],[]⟩,[],⟨[.bool],[]⟩,0,F⟩
def GK(F:List zb->Option (List zb)):Con I:=⟨107,⟨[.sl 49],[]⟩,[],⟨[.sl 49],[]⟩,0,F⟩
def iK(F:List zb->Option (List zb)):Con I:=⟨106,⟨[.sl 49],[]⟩,[],⟨[.sl 49],[]⟩,0,F⟩
def DD(F:zb->Option Bool):Con I:=⟨92,⟨[.val 49],[]⟩,[],⟨[.bool],[]⟩,0,F⟩
def uK(F:Int×List zb->Option Bool):Con I:=⟨68,⟨[.int .i64, .optr 0],[(0, .row 23)]⟩,[0],⟨[.bool],[]⟩,0,F⟩
def xJ(F:List zb->Option (List zb×Int)):Con I:=⟨29,⟨[.sl 49],[]⟩,[],⟨[.sl 49, .int .i64],[]⟩,0,F⟩
def Su(F:List zb×List zg->Option (List zg)):Con I:=⟨63,⟨[.own 0, .sl 49],[(0, .sl 44)]⟩,[],⟨[.own 1],[(1, .sl 44)]⟩,1,F⟩
def tK(F:List zb->Option (List zg)):Con I:=⟨63,⟨[.nilv, .sl 49],[]⟩,[],⟨[.own 0],[(0, .sl 44)]⟩,1,F⟩
def BK(F:List zb->Option (List zg×Int)):Con I:=⟨18,⟨[.sl 49],[]⟩,[],⟨[.sl 44, .int .i64],[]⟩,0,F⟩
def jK(F:Str->Option Bool):Con I:=⟨87,⟨[.str],[]⟩,[],⟨[.bool],[]⟩,0,F⟩
def pM(F:Str×Str->Option Str):Con I:=⟨197,⟨[.str, .str],[]⟩,[],⟨[.str],[]⟩,0,F⟩
def YM(F:Str×Str->Option Str):Con I:=⟨162,⟨[.str, .str],[]⟩,[],⟨[.str],[]⟩,0,F⟩
def Oo(F:Int->Option Bool):Con I:=⟨155,⟨[.int .u8],[]⟩,[],⟨[.bool],[]⟩,0,F⟩
def yD(F:Str->Option Bool):Con I:=⟨122,⟨[.str],[]⟩,[],⟨[.bool],[]⟩,0,F⟩
def nD(F:Int->Option Bool):Con I:=⟨157,⟨[.int .u8],[]⟩,[],⟨[.bool],[]⟩,0,F⟩
def Ny(F:Int->Option Bool):Con I:=⟨153,⟨[.int .u8],[]⟩,[],⟨[.bool],[]⟩,0,F⟩
def WM(F:Str×Str->Option Bool):Con I:=⟨154,⟨[.str, .str],[]⟩,[],⟨[.bool],[]⟩,0,F⟩
def DK(F:zg->Option Bool):Con I:=⟨115,⟨[.val 44],[]⟩,[],⟨[.bool],[]⟩,0,F⟩
def jL(F:(Int×Int)×List zg->Option Bool):Con I:=⟨116,⟨[.int .i64, .int .u8, .optr 0],[(0, .row 22)]⟩,[0],⟨[.bool],[]⟩,0,F⟩
def VD(F:List zg->Option Int):Con I:=⟨80,⟨[.sl 44],[]⟩,[],⟨[.int .i64],[]⟩,0,F⟩
def YD(F:List zg->Option Int):Con I:=⟨79,⟨[.sl 44],[]⟩,[],⟨[.int .i64],[]⟩,0,F⟩
def MM(F:zb->Option Bool):Con I:=⟨128,⟨[.val 49],[]⟩,[],⟨[.bool],[]⟩,0,F⟩
def rM(F:List zb->Option Int):Con I:=⟨129,⟨[.sl 49, .clo 128 []],[]⟩,[],⟨[.int .i64],[]⟩,0,F⟩
def QI(F:List zb->Option Bool):Con I:=⟨89,⟨[.sl 49, .clo 128 []],[]⟩,[],⟨[.bool],[]⟩,0,F⟩
def qa(F:List zb->Option Bool):Con I:=⟨88,⟨[.sl 49],[]⟩,[],⟨[.bool],[]⟩,0,F⟩
def kL(F:zb->Option Bool):Con I:=⟨90,⟨[.val 49],[]⟩,[],⟨[.bool],[]⟩,0,F⟩
def Q9(F:List zb->Option Int):Con I:=⟨129,⟨[.sl 49, .clo 90 []],[]⟩,[],⟨[.int .i64],[]⟩,0,F⟩
def Qw(F:List zb->Option Bool):Con I:=⟨89,⟨[.sl 49, .clo 90 []],[]⟩,[],⟨[.bool],[]⟩,0,F⟩
def aD(F:zV->Option Int):Con I:=⟨52,⟨[.val 66],[]⟩,[],⟨[.int .i64],[]⟩,0,F⟩
def nC(F:List zb->Option (zV×Bool)):Con I:=⟨73,⟨[.sl 49],[]⟩,[],⟨[.val 66, .bool],[]⟩,0,F⟩
def jB(F:List zb->Option (List zV×Int)):Con I:=⟨39,⟨[.sl 49],[]⟩,[],⟨[.sl 66, .int .i64],[]⟩,0,F⟩
def JK(F:Str->Option (List zV×Int)):Con I:=⟨41,⟨[.str],[]⟩,[],⟨[.sl 66, .int .i64],[]⟩,0,F⟩
def XD(F:Str->Option Int):Con I:=⟨118,⟨[.str],[]⟩,[],⟨[.int .i64],[]⟩,0,F⟩
def ky(F:Int×List UInt8->Option (List UInt8)):Con I:=⟨120,⟨[.own 0, .int .u8],[(0, .sl 5)]⟩,[],⟨[.own 1],[(1, .sl 5)]⟩,1,F⟩
def AL(F:Str×Int->Option (List UInt8)):Con I:=⟨117,⟨[.nilv, .str, .int .i64],[]⟩,[],⟨[.own 0],[(0, .sl 5)]⟩,1,F⟩
def EK(F:Str->Option (Str×Int)):Con I:=⟨83,⟨[.str],[]⟩,[],⟨[.str, .int .i64],[]⟩,0,F⟩
def yK(F:(Str×Int)×List UInt8->Option (List UInt8)):Con I:=⟨117,⟨[.own 0, .str, .int .i64],[(0, .sl 5)]⟩,[],⟨[.own 1],[(1, .sl 5)]⟩,1,F⟩
def fK(F:Unit->Option Qz):Con I:=⟨123,⟨[],[]⟩,[],⟨[.val 149],[]⟩,0,F⟩
def EM(F:(Int×Bool)×List UInt8->Option (List UInt8)):Con I:=⟨121,⟨[.own 0, .int .i64, .bool],[(0, .sl 5)]⟩,[],⟨[.own 1],[(1, .sl 5)]⟩,1,F⟩
def xK(F:zg×List UInt8->Option (List UInt8)):Con I:=⟨81,⟨[.own 0, .val 44],[(0, .sl 5)]⟩,[],⟨[.own 1],[(1, .sl 5)]⟩,1,F⟩
def aM(F:List zg×List zg->Option Bool):Con I:=⟨82,⟨[.sl 44, .sl 44],[]⟩,[],⟨[.bool],[]⟩,0,F⟩
def gK(F:List zg->Option (Str×Int)):Con I:=⟨46,⟨[.sl 44],[]⟩,[],⟨[.str, .int .i64],[]⟩,0,F⟩
def yJ(F:List zb->Option (Str×Int)):Con I:=⟨20,⟨[.sl 49],[]⟩,[],⟨[.str, .int .i64],[]⟩,0,F⟩
def IK(F:zV->Option (Str×Int)):Con I:=⟨48,⟨[.val 66],[]⟩,[],⟨[.str, .int .i64],[]⟩,0,F⟩
def LK(F:List zV->Option (Str×Int)):Con I:=⟨50,⟨[.sl 66],[]⟩,[],⟨[.str, .int .i64],[]⟩,0,F⟩
def vK(F:Str×Str×Int->Option Bool):Con I:=⟨55,⟨[.str, .str, .int .i64],[]⟩,[],⟨[.bool],[]⟩,0,F⟩
def wK(F:Unit->Option Bool):Con I:=⟨54,⟨[],[]⟩,[],⟨[.bool],[]⟩,0,F⟩
def TJ(F:List zb->Option (zV×Bool×Int)):Con I:=⟨37,⟨[.sl 49],[]⟩,[],⟨[.val 66, .bool, .int .i64],[]⟩,0,F⟩
def Eu(F:List zb×List zb->Option Bool):Con I:=⟨22,⟨[.sl 49, .sl 49],[]⟩,[],⟨[.bool],[]⟩,0,F⟩
def mD(F:zV×zV->Option Bool):Con I:=⟨43,⟨[.val 66, .val 66],[]⟩,[],⟨[.bool],[]⟩,0,F⟩
def dK(F:List zV×List zV->Option Bool):Con I:=⟨44,⟨[.sl 66, .own 0],[(0, .sl 66)]⟩,[0],⟨[.bool],[]⟩,0,F⟩
def LM(F:List zb->Option Bool):Con I:=⟨11,⟨[.sl 49],[]⟩,[],⟨[.bool],[]⟩,0,F⟩
def iL(F:List zb->Option (List zg)):Con I:=⟨63,⟨[.nilv, .sl 49],[]⟩,[],⟨[.sl 44],[]⟩,0,F⟩
def lG(F:Str->Option (Str×Int)):Con I:=⟨99,⟨[.str],[]⟩,[],⟨[.str, .int .i64],[]⟩,0,F⟩
theorem FT:zm Tryz.prog (lG wm):=RU
def MI(F:Str×Int->Option Int):Con I:=⟨156,⟨[.str, .int .u8],[]⟩,[],⟨[.int .i64],[]⟩,0,F⟩
theorem RV:zm Tryz.prog (MI oq):=bU
def CB(F:Str×Str->Option Int):Con I:=⟨136,⟨[.str, .str],[]⟩,[],⟨[.int .i64],[]⟩,0,F⟩
theorem bH:zm Tryz.prog (CB Pj):=PU
def jG(F:Str×Str->Option Str):Con I:=⟨213,⟨[.str, .str],[]⟩,[],⟨[.str],[]⟩,0,F⟩
theorem yS:zm Tryz.prog (jG Rk):=kS
def iG(F:Str×Str->Option Str):Con I:=⟨160,⟨[.str, .str],[]⟩,[],⟨[.str],[]⟩,0,F⟩
theorem xS:zm Tryz.prog (iG jm):=jS
def CK(F:Str×Str->Option Int):Con I:=⟨214,⟨[.str, .str],[]⟩,[],⟨[.int .i64],[]⟩,0,F⟩
theorem pW:zm Tryz.prog (CK Xr):=eX
def XF(F:Str×Str->Option (Str×Str×Bool)):Con I:=⟨215,⟨[.str, .str],[]⟩,[],⟨[.str, .str, .bool],[]⟩,0,F⟩
theorem yP:zm Tryz.prog (XF cutF):=aP
def NI(F:Int×Int->Option Str):Con I:=⟨161,⟨[.int .i64, .int .i64],[]⟩,[],⟨[.str],[]⟩,0,F⟩
theorem SV:zm Tryz.prog (NI bv):=dU
def UJ(F:(Int×Int)×List UInt8->Option (List UInt8)):Con I:=⟨158,⟨[.own 0, .int .u64, .int .i64],[(0, .sl 5)]⟩,[],⟨[.own 1],[(1, .sl 5)]⟩,1,F⟩
theorem KW:zm Tryz.prog (UJ Xw):=kV
def VJ(F:(Int×Int)×List UInt8->Option (List UInt8)):Con I:=⟨159,⟨[.own 0, .int .i64, .int .i64],[(0, .sl 5)]⟩,[],⟨[.own 1],[(1, .sl 5)]⟩,1,F⟩
theorem LW:zm Tryz.prog (VJ Yw):=lV
def kG(F:List zg->Option (List zb×Int)):Con I:=⟨16,⟨[.sl 44],[]⟩,[],⟨[.sl 49, .int .i64],[]⟩,0,F⟩
theorem DT:zm Tryz.prog (kG parseF):=OU
def RG(F:List Str×Str->Option Str):Con I:=⟨85,⟨[.sl 9, .str],[]⟩,[],⟨[.str],[]⟩,0,F⟩
theorem GQ:zm Tryz.prog (RG Nk):=vR
theorem JY(qi:List zb×Int->Option Int)(hs:zm Tryz.prog (Du qi)):zm Tryz.prog (Du (Po qi)):=
 okC (A:=⟨[Du qi],[],[],0,[(3,⟨[5,6],⟨[.int .i64, .int .i64],[]⟩,[0,1,4],[],[],0,[5],⟨[.int .i64],[]⟩,[]⟩)],[],[]⟩) (exS:=⟨[.int .i64],[]⟩) Tryz.f58 (memC hs zC) (by kernel_rfl) (by kernel_rfl) fun x=>by kernel_rfl
theorem rX:zm Tryz.prog (Du qi):=
 zm.recE (I:=I) (P:=Tryz.prog) (f:=58) (inS:=⟨[.sl 49, .int .i64],[]⟩) (cst:=[]) (outS:=⟨[.int .i64],[]⟩) (k:=0) (Po) (by kernel_rfl) (fun S h=>JY S h)
theorem rD:zm Tryz.prog (Wy qL):=
 okC (A:=⟨[],[],[],0,[],[(6,⟨[6],⟨[.bool],[]⟩,[3],[],[],0,[],⟨[],[]⟩,[]⟩)],[]⟩) (exS:=⟨[.int .u8],[]⟩) Tryz.f25 zC (by kernel_rfl) (by kernel_rfl) fun x=>by kernel_rfl
theorem LY(qE:List zb->Option Int)(hs:zm Tryz.prog (Uo qE)):zm Tryz.prog (Uo (Hy qE)):=
 okC (A:=⟨[Wy qL,Uo qE],[],[],0,[(3,⟨[3,4],⟨[.int .i64, .int .i64],[]⟩,[0,2],[],[],0,[3],⟨[.int .i64],[]⟩,[]⟩)],[(4,⟨[3,4],⟨[.int .i64, .int .i64],[]⟩,[],[],[],0,[],⟨[],[]⟩,[]⟩)],[]⟩) (exS:=⟨[.int .i64],[]⟩) Tryz.f59 (memC rD (memC hs zC)) (by kernel_rfl) (by kernel_rfl) fun x=>by kernel_rfl
theorem DL:zm Tryz.prog (Uo qE):=
 zm.recE (I:=I) (P:=Tryz.prog) (f:=59) (inS:=⟨[.sl 49],[]⟩) (cst:=[]) (outS:=⟨[.int .i64],[]⟩) (k:=0) (Hy) (by kernel_rfl) (fun S h=>LY S h)
theorem mY:zm Tryz.prog (pK Yt):=
 okC (A:=⟨[Du qi,Uo qE],[],[],0,[],[],[]⟩) (exS:=⟨[.bool],[]⟩) Tryz.f15 (memC rX (memC DL zC)) (by kernel_rfl) (by kernel_rfl) fun x=>by kernel_rfl
theorem WZ(qc:List zb->Option (List zg))(hs:zm Tryz.prog (Lu qc)):zm Tryz.prog (Lu (Ty qc)):=
 okC (A:=⟨[Wy qL,Lu qc],[(5,[6]),(9,[3])],[],0,[(3,⟨[3,4],⟨[.own 1001, .int .i64],[(1001, .sl 44)]⟩,[0,2],[],[],0,[3],⟨[.own 1001],[(1001, .sl 44)]⟩,[1001]⟩)],[(4,⟨[3,4],⟨[.own 1103, .int .i64],[(1103, .sl 44)]⟩,[],[],[],0,[],⟨[],[]⟩,[]⟩)],[]⟩) (exS:=⟨[.sl 44],[]⟩) Tryz.f36 (memC rD (memC hs zC)) (by kernel_rfl) (by kernel_rfl) fun x=>by kernel_rfl
theorem OZ:zm Tryz.prog (Lu qc):=
 zm.recE (I:=I) (P:=Tryz.prog) (f:=36) (inS:=⟨[.sl 49],[]⟩) (cst:=[]) (outS:=⟨[.sl 44],[]⟩) (k:=0) (Ty) (by kernel_rfl) (fun S h=>WZ S h)
theorem jY(qd:List zb×Int->Option Bool)(hs:zm Tryz.prog (Ku qd)):zm Tryz.prog (Ku (Sy qd)):=
 okC (A:=⟨[Wy qL,Ku qd],[],[],0,[(2,⟨[5],⟨[.int .i64],[]⟩,[0,1],[],[],0,[],⟨[],[]⟩,[]⟩)],[],[]⟩) (exS:=⟨[.bool],[]⟩) Tryz.f66 (memC rD (memC hs zC)) (by kernel_rfl) (by kernel_rfl) fun x=>by kernel_rfl
theorem NZ:zm Tryz.prog (Ku qd):=
 zm.recE (I:=I) (P:=Tryz.prog) (f:=66) (inS:=⟨[.sl 49, .int .u8],[]⟩) (cst:=[]) (outS:=⟨[.bool],[]⟩) (k:=0) (Sy) (by kernel_rfl) (fun S h=>jY S h)
theorem nY:zm Tryz.prog (sK ut):=
 okC (A:=⟨[Uo qE,Lu qc,Ku qd],[],[],0,[],[],[]⟩) (exS:=⟨[.int .i64],[]⟩) Tryz.f27 (memC DL (memC OZ (memC NZ zC))) (by kernel_rfl) (by kernel_rfl) fun x=>by kernel_rfl
theorem nM:zm Tryz.prog (Qp stringslite_HasPrefix):=
 okC (A:=⟨[],[],[],0,[],[],[]⟩) (exS:=⟨[.bool],[]⟩) Tryz.f130 zC (by kernel_rfl) (by kernel_rfl) fun x=>by kernel_rfl
theorem zY:zm Tryz.prog (zT strings_HasPrefix):=
 okC (A:=⟨[Qp stringslite_HasPrefix],[],[],0,[],[],[]⟩) (exS:=⟨[.bool],[]⟩) Tryz.f93 (memC nM zC) (by kernel_rfl) (by kernel_rfl) fun x=>by kernel_rfl
theorem K3:zm Tryz.prog (oM Zp):=
 okC (A:=⟨[zT strings_HasPrefix,CB Pj],[],[],1,[(0,⟨[],⟨[],[(0, .row 133)]⟩,[0],[],[0],0,[],⟨[],[(0, .row 133)]⟩,[0]⟩)],[],[]⟩) (exS:=⟨[],[(0, .row 133)]⟩) Tryz.f100 (memC zY (memC bH zC)) (by kernel_rfl) (by kernel_rfl) fun x=>by kernel_rfl
theorem zu:zm Tryz.prog (zq zf):=
 okC (A:=⟨[],[],[],1,[],[],[]⟩) (exS:=⟨[.int .i64],[]⟩) Tryz.f137 zC (by kernel_rfl) (by kernel_rfl) fun x=>by kernel_rfl
theorem Fu:zm Tryz.prog (QW Zk):=
 okC (A:=⟨[],[],[],0,[],[],[]⟩) (exS:=⟨[.bool],[]⟩) Tryz.f138 zC (by kernel_rfl) (by kernel_rfl) fun x=>by kernel_rfl
theorem QE:zm Tryz.prog (qF zN):=
 okC (A:=⟨[zq zf,QW Zk],[],[],1,[(0,⟨[],⟨[],[(0, .row 133)]⟩,[0,1],[],[0],0,[],⟨[],[(0, .row 133)]⟩,[0]⟩)],[],[]⟩) (exS:=⟨[],[(0, .row 133)]⟩) Tryz.f139 (memC zu (memC Fu zC)) (by kernel_rfl) (by kernel_rfl) fun x=>by kernel_rfl
theorem U4:zm Tryz.prog (QJ qV):=
 okC (A:=⟨[],[(2,[1]),(4,[9]),(7,[14]),(9,[19])],[],0,[],[(7,⟨[25],⟨[.bool],[]⟩,[0,1,5],[],[],0,[],⟨[],[]⟩,[]⟩)],[]⟩) (exS:=⟨[.own 0],[(0, .sl 5)]⟩) Tryz.f237 zC (by kernel_rfl) (by kernel_rfl) fun x=>by kernel_rfl
theorem oZ:zm Tryz.prog (OM qj):=
 okC (A:=⟨[QJ qV],[(2,[3])],[],0,[],[],[]⟩) (exS:=⟨[.own 0],[(0, .sl 5)]⟩) Tryz.f210 (memC U4 zC) (by kernel_rfl) (by kernel_rfl) fun x=>by kernel_rfl
theorem jy:zm Tryz.prog (Ju qf):=
 okC (A:=⟨[],[],[],0,[],[],[]⟩) (exS:=⟨[.bool],[]⟩) Tryz.f212 zC (by kernel_rfl) (by kernel_rfl) fun x=>by kernel_rfl
theorem Gu:zm Tryz.prog (QV Zt):=
 okC (A:=⟨[Ju qf],[],[],0,[],[],[]⟩) (exS:=⟨[.bool],[]⟩) Tryz.f174 (memC jy zC) (by kernel_rfl) (by kernel_rfl) fun x=>by kernel_rfl
theorem UK:zm Tryz.prog (BD QR):=
 okC (A:=⟨[QV Zt,Ju qf],[],[],0,[],[],[]⟩) (exS:=⟨[.int .i64],[]⟩) Tryz.f211 (memC Gu (memC jy zC)) (by kernel_rfl) (by kernel_rfl) fun x=>by kernel_rfl
theorem I4:zm Tryz.prog (iM Zy):=
 okC (A:=⟨[zq zf,OM qj,BD QR,QW Zk],[(7,[3])],[],1,[(10,⟨[6,36],⟨[.int .i64, .int .i64],[(0, .row 133)]⟩,[0,1,4],[],[0],0,[6],⟨[.int .i64],[(0, .row 133)]⟩,[0]⟩)],[(17,⟨[6],⟨[.int .i64],[(0, .row 133)]⟩,[1],[],[0],0,[],⟨[],[]⟩,[]⟩),(19,⟨[6],⟨[.int .i64],[]⟩,[],[0],[],0,[],⟨[],[]⟩,[]⟩)],[]⟩) (exS:=⟨[.own 1],[(0, .row 133),(1, .sl 5)]⟩) Tryz.f172 (memC zu (memC oZ (memC UK (memC Fu zC)))) (by kernel_rfl) (by kernel_rfl) fun x=>by kernel_rfl
theorem Y3:zm Tryz.prog (QK qW):=
 okC (A:=⟨[],[(2,[1]),(4,[9]),(7,[14]),(9,[19])],[],1,[],[(7,⟨[25],⟨[.bool],[(0, .sl 5)]⟩,[0,1,5],[],[0],0,[],⟨[],[]⟩,[]⟩)],[]⟩) (exS:=⟨[.own 1],[(1, .sl 5)]⟩) Tryz.f237 zC (by kernel_rfl) (by kernel_rfl) fun x=>by kernel_rfl
theorem nZ:zm Tryz.prog (NM ql):=
 okC (A:=⟨[QK qW],[(2,[3])],[],1,[],[],[]⟩) (exS:=⟨[.own 1],[(1, .sl 5)]⟩) Tryz.f210 (memC Y3 zC) (by kernel_rfl) (by kernel_rfl) fun x=>by kernel_rfl
theorem qC:zm Tryz.prog (ZO zD):=
 okC (A:=⟨[zq zf,NM ql,BD QR,QW Zk],[(7,[3])],[],2,[(10,⟨[6,36],⟨[.int .i64, .int .i64],[(0, .row 133)]⟩,[0,1,4],[1],[0],0,[6],⟨[.int .i64],[(0, .row 133)]⟩,[0]⟩)],[(17,⟨[6],⟨[.int .i64],[(0, .row 133),(1, .sl 5)]⟩,[1],[],[0,1],0,[],⟨[],[]⟩,[]⟩),(19,⟨[6],⟨[.int .i64],[(1, .sl 5)]⟩,[],[0],[1],0,[],⟨[],[]⟩,[]⟩)],[]⟩) (exS:=⟨[.own 2],[(0, .row 133),(2, .sl 5)]⟩) Tryz.f172 (memC zu (memC nZ (memC UK (memC Fu zC)))) (by kernel_rfl) (by kernel_rfl) fun x=>by kernel_rfl
theorem U3:zm Tryz.prog (sM Z7):=
 okC (A:=⟨[zq zf,ZO zD],[(5,[3])],[],1,[(4,⟨[4],⟨[.own 1104],[(0, .row 133),(1, .row 44),(1104, .sl 5)]⟩,[0,2,3],[],[0,1],0,[4],⟨[.own 1104],[(0, .row 133),(1, .row 44),(1104, .sl 5)]⟩,[0,1,1104]⟩)],[],[]⟩) (exS:=⟨[.optr 1],[(0, .row 133),(1, .row 44)]⟩) Tryz.f140 (memC zu (memC qC zC)) (by kernel_rfl) (by kernel_rfl) fun x=>by kernel_rfl
theorem nL:zm Tryz.prog (lD Bo):=
 okC (A:=⟨[Ju qf],[],[],0,[],[],[]⟩) (exS:=⟨[.bool],[]⟩) Tryz.f173 (memC jy zC) (by kernel_rfl) (by kernel_rfl) fun x=>by kernel_rfl
theorem FM:zm Tryz.prog (wD QS):=
 okC (A:=⟨[lD Bo,QV Zt],[],[],0,[],[],[]⟩) (exS:=⟨[.bool],[]⟩) Tryz.f141 (memC nL (memC Gu zC)) (by kernel_rfl) (by kernel_rfl) fun x=>by kernel_rfl
theorem Zx:zm Tryz.prog (Zm zt):=
 okC (A:=⟨[zq zf],[],[],1,[],[],[]⟩) (exS:=⟨[.bool],[]⟩) Tryz.f142 (memC zu zC) (by kernel_rfl) (by kernel_rfl) fun x=>by kernel_rfl
theorem dM:zm Tryz.prog (OE zM):=
 okC (A:=⟨[zq zf,lD Bo,Zm zt],[],[],1,[],[],[]⟩) (exS:=⟨[.bool],[]⟩) Tryz.f143 (memC zu (memC nL (memC Zx zC))) (by kernel_rfl) (by kernel_rfl) fun x=>by kernel_rfl
theorem QP:zm Tryz.prog (qX zR):=
 okC (A:=⟨[zq zf,wD QS,Zm zt,ZO zD],[(5,[3])],[],1,[(2,⟨[3],⟨[.own 1105],[(0, .row 133),(1105, .sl 5)]⟩,[0],[],[0],0,[],⟨[],[]⟩,[]⟩)],[],[]⟩) (exS:=⟨[.str],[(0, .row 133)]⟩) Tryz.f144 (memC zu (memC FM (memC Zx (memC qC zC)))) (by kernel_rfl) (by kernel_rfl) fun x=>by kernel_rfl
theorem V3:zm Tryz.prog (uM qY):=
 okC (A:=⟨[zq zf,QV Zt],[],[],1,[],[(5,⟨[3],⟨[.int .i64],[]⟩,[0],[],[],0,[],⟨[],[]⟩,[]⟩),(7,⟨[3],⟨[.int .i64],[]⟩,[],[],[],0,[],⟨[],[]⟩,[]⟩)],[]⟩) (exS:=⟨[.bool],[]⟩) Tryz.f145 (memC zu (memC Gu zC)) (by kernel_rfl) (by kernel_rfl) fun x=>by kernel_rfl
theorem Y1:zm Tryz.prog (jM Zf):=
 okC (A:=⟨[zq zf,QV Zt],[],[],1,[(0,⟨[],⟨[],[(0, .row 133)]⟩,[0,1],[],[0],0,[],⟨[],[(0, .row 133)]⟩,[0]⟩)],[],[]⟩) (exS:=⟨[],[(0, .row 133)]⟩) Tryz.f139 (memC zu (memC Gu zC)) (by kernel_rfl) (by kernel_rfl) fun x=>by kernel_rfl
theorem U2:zm Tryz.prog (mM ZR):=
 okC (A:=⟨[zq zf,jM Zf,QV Zt],[],[],1,[],[(4,⟨[],⟨[],[(0, .row 133)]⟩,[0],[],[0],0,[],⟨[],[]⟩,[]⟩),(10,⟨[4],⟨[.bool],[(0, .row 133)]⟩,[],[],[0],0,[],⟨[],[]⟩,[]⟩),(15,⟨[4,5],⟨[.bool, .int .i64],[(0, .row 133)]⟩,[],[],[0],0,[],⟨[],[]⟩,[]⟩),(19,⟨[4],⟨[.bool],[(0, .row 133)]⟩,[],[],[0],0,[],⟨[],[]⟩,[]⟩)],[]⟩) (exS:=⟨[.bool],[(0, .row 133)]⟩) Tryz.f175 (memC zu (memC Y1 (memC Gu zC))) (by kernel_rfl) (by kernel_rfl) fun x=>by kernel_rfl
theorem rZ:zm Tryz.prog (PM Qj):=
 okC (A:=⟨[jG Rk,CK Xr,XF cutF],[],[],0,[(8,⟨[6,31],⟨[.int .i64, .int .i64],[]⟩,[0,2,3,4,5,29,30],[0],[],0,[6],⟨[.int .i64],[]⟩,[]⟩),(22,⟨[12,81],⟨[.int .i64, .int .i64],[]⟩,[4,79,80],[0],[],2,[12],⟨[.int .i64],[]⟩,[]⟩),(26,⟨[4,12],⟨[.int .i64, .int .i64],[]⟩,[],[],[],4,[12],⟨[.int .i64],[]⟩,[]⟩)],[(14,⟨[0,4,6],⟨[.str, .int .i64, .int .i64],[]⟩,[3,5],[],[],0,[],⟨[],[]⟩,[]⟩),(15,⟨[0,4],⟨[.str, .int .i64],[]⟩,[3],[],[],0,[],⟨[],[]⟩,[]⟩),(20,⟨[0,4],⟨[.str, .int .i64],[]⟩,[],[],[],0,[],⟨[],[]⟩,[]⟩),(31,⟨[12],⟨[.int .i64],[]⟩,[],[],[],0,[],⟨[],[]⟩,[]⟩)],[]⟩) (exS:=⟨[.int .i64],[]⟩) Tryz.f176 (memC yS (memC pW (memC yP zC))) (by kernel_rfl) (by kernel_rfl) fun x=>by kernel_rfl
theorem J2:zm Tryz.prog (lM ZT):=
 okC (A:=⟨[mM ZR,PM Qj,OE zM,qX zR,zq zf],[],[],1,[],[(9,⟨[],⟨[],[(0, .row 133),(1, .row 44),(2, .row 44)]⟩,[2,5],[],[0,1,2],0,[],⟨[],[]⟩,[]⟩)],[]⟩) (exS:=⟨[.optr 1],[(0, .row 133),(1, .row 44)]⟩) Tryz.f146 (memC U2 (memC rZ (memC dM (memC QP (memC zu zC))))) (by kernel_rfl) (by kernel_rfl) fun x=>by kernel_rfl
theorem eD:zm Tryz.prog (ay ZL):=
 okC (A:=⟨[],[],[],0,[(3,⟨[10],⟨[.int .i64],[(0, .sl 5)]⟩,[2,3,8,9],[],[0],0,[],⟨[],[(0, .sl 5)]⟩,[0]⟩)],[(7,⟨[10],⟨[.int .i64],[(0, .sl 5)]⟩,[],[],[0],0,[],⟨[],[]⟩,[]⟩)],[]⟩) (exS:=⟨[.str],[]⟩) Tryz.f108 zC (by kernel_rfl) (by kernel_rfl) fun x=>by kernel_rfl
theorem fD:zm Tryz.prog (gy ZW):=
 okC (A:=⟨[ay ZL],[],[],0,[],[],[]⟩) (exS:=⟨[.bool],[]⟩) Tryz.f109 (memC eD zC) (by kernel_rfl) (by kernel_rfl) fun x=>by kernel_rfl
theorem tZ:zm Tryz.prog (UM ZN):=
 okC (A:=⟨[zq zf,Zm zt,iM Zy],[],[],1,[(1,⟨[],⟨[],[(0, .row 133),(1, .row 44)]⟩,[0,2],[],[0,1],0,[],⟨[],[]⟩,[]⟩)],[],[]⟩) (exS:=⟨[.optr 1],[(0, .row 133),(1, .row 44)]⟩) Tryz.f216 (memC zu (memC Zx (memC I4 zC))) (by kernel_rfl) (by kernel_rfl) fun x=>by kernel_rfl
theorem sZ:zm Tryz.prog (TM Qi):=
 okC (A:=⟨[qF zN,zq zf,QW Zk,UM ZN,Ju qf,Zm zt,ZO zD],[(18,[3])],[],1,[(3,⟨[3],⟨[.own 1106],[(0, .row 133),(1, .row 44),(1106, .sl 5)]⟩,[0,2],[],[0,1],0,[],⟨[],[]⟩,[]⟩)],[(10,⟨[3,4],⟨[.own 1106, .int .i64],[(0, .row 133),(1, .row 44),(1106, .sl 5)]⟩,[],[],[0,1,1106],0,[],⟨[],[]⟩,[]⟩)],[]⟩) (exS:=⟨[.optr 1],[(0, .row 133),(1, .row 44)]⟩) Tryz.f177 (memC QE (memC zu (memC Fu (memC tZ (memC jy (memC Zx (memC qC zC))))))) (by kernel_rfl) (by kernel_rfl) fun x=>by kernel_rfl
theorem yZ:zm Tryz.prog (fM qw):=
 okC (A:=⟨[qX zR,zq zf,gy ZW,qF zN,TM Qi],[],[],1,[],[(11,⟨[],⟨[],[(0, .row 133),(1, .row 44)]⟩,[2,3],[],[0,1],0,[],⟨[],[]⟩,[]⟩)],[]⟩) (exS:=⟨[.optr 1],[(0, .row 133),(1, .row 44)]⟩) Tryz.f147 (memC QP (memC zu (memC fD (memC QE (memC sZ zC))))) (by kernel_rfl) (by kernel_rfl) fun x=>by kernel_rfl
theorem Z6:zm Tryz.prog (ZH strings_IndexByte):=
 okC (A:=⟨[MI oq],[],[],0,[],[],[]⟩) (exS:=⟨[.int .i64],[]⟩) Tryz.f119 (memC RV zC) (by kernel_rfl) (by kernel_rfl) fun x=>by kernel_rfl
theorem U0:zm Tryz.prog (XM qO):=
 okC (A:=⟨[zq zf,QW Zk,qF zN,sM Z7,wD QS,Zm zt,OE zM,qX zR,uM qY,lM ZT,zT strings_HasPrefix,fM qw,ZH strings_IndexByte],[],[],1,[],[],[]⟩) (exS:=⟨[.optr 1],[(0, .row 133),(1, .row 44)]⟩) Tryz.f101 (memC zu (memC Fu (memC QE (memC U3 (memC FM (memC Zx (memC dM (memC QP (memC V3 (memC J2 (memC zY (memC yZ (memC Z6 zC))))))))))))) (by kernel_rfl) (by kernel_rfl) fun x=>by kernel_rfl
theorem wZ:zm Tryz.prog (VM iy):=
 okC (A:=⟨[],[(1,[2])],[],2,[],[],[]⟩) (exS:=⟨[],[(0, .cells 22 [.own 2]),(2, .sl 44)]⟩) Tryz.f70 zC (by kernel_rfl) (by kernel_rfl) fun x=>by kernel_rfl
theorem MZ:zm Tryz.prog (dL yt):=
 okC (A:=⟨[lG wm,oM Zp,XM qO,VM iy],[],[],1,[(7,⟨[7],⟨[.int .i64],[(0, .cells 22 [.own 1107]),(1107, .sl 44),(1, .row 133)]⟩,[0,1,6],[],[0,1],0,[],⟨[],[(0, .cells 22 [.own 1107]),(1107, .sl 44),(1, .row 133)]⟩,[0,1,1107]⟩)],[],[]⟩) (exS:=⟨[.int .i64],[(0, .cells 22 [.own 1]),(1, .sl 44)]⟩) Tryz.f69 (memC FT (memC K3 (memC U0 (memC wZ zC)))) (by kernel_rfl) (by kernel_rfl) fun x=>by kernel_rfl
theorem IM:zm Tryz.prog (xD QQ):=
 okC (A:=⟨[dL yt],[],[],0,[],[],[]⟩) (exS:=⟨[.sl 44, .int .i64],[]⟩) Tryz.f33 (memC MZ zC) (by kernel_rfl) (by kernel_rfl) fun x=>by kernel_rfl
theorem Hu:zm Tryz.prog (QU Zr):=
 okC (A:=⟨[],[],[],0,[],[(7,⟨[6],⟨[.bool],[]⟩,[0],[],[],0,[],⟨[],[]⟩,[]⟩)],[]⟩) (exS:=⟨[.int .u8],[]⟩) Tryz.f61 zC (by kernel_rfl) (by kernel_rfl) fun x=>by kernel_rfl
theorem DX(Z5:List zb×Int->Option zn)(hs:zm Tryz.prog (Vt Z5)):zm Tryz.prog (Vt (Eo Z5)):=
 okC (A:=⟨[QU Zr,Vt Z5],[],[],0,[(3,⟨[12],⟨[.int .i64],[(1, .row 101)]⟩,[1,4,5,10,11],[0],[1],0,[],⟨[],[(1, .row 101)]⟩,[1]⟩)],[(9,⟨[],⟨[],[(1, .row 101)]⟩,[7,8,12],[2],[1],0,[],⟨[],[]⟩,[]⟩),(12,⟨[12],⟨[.int .i64],[(1, .row 101)]⟩,[],[],[1],0,[],⟨[],[]⟩,[]⟩)],[]⟩) (exS:=⟨[.optr 0],[(0, .row 101)]⟩) Tryz.f65 (memC Hu (memC hs zC)) (by kernel_rfl) (by kernel_rfl) fun x=>by kernel_rfl
theorem lW:zm Tryz.prog (Vt Z5):=
 zm.recE (I:=I) (P:=Tryz.prog) (f:=65) (inS:=⟨[.sl 49, .int .u8],[]⟩) (cst:=[]) (outS:=⟨[.val 101],[]⟩) (k:=0) (Eo) (by kernel_rfl) (fun S h=>DX S h)
theorem Nu:zm Tryz.prog (Mo ZM):=
 okC (A:=⟨[Vt Z5],[],[],0,[],[],[]⟩) (exS:=⟨[.int .i64],[]⟩) Tryz.f32 (memC lW zC) (by kernel_rfl) (by kernel_rfl) fun x=>by kernel_rfl
theorem I1:zm Tryz.prog (bM qM):=
 okC (A:=⟨[],[],[],0,[],[],[]⟩) (exS:=⟨[.own 0],[(0, .sl 49)]⟩) Tryz.f98 zC (by kernel_rfl) (by kernel_rfl) fun x=>by kernel_rfl
theorem CX(Qe:List zb->Option (List zb))(hs:zm Tryz.prog (Ko Qe)):zm Tryz.prog (Ko (Dy Qe)):=
 okC (A:=⟨[bM qM,Ko Qe],[],[],0,[(3,⟨[8],⟨[.int .i64],[(0, .sl 49)]⟩,[0,2,7],[],[0],0,[],⟨[],[(0, .sl 49)]⟩,[0]⟩)],[],[]⟩) (exS:=⟨[.sl 49],[]⟩) Tryz.f67 (memC I1 (memC hs zC)) (by kernel_rfl) (by kernel_rfl) fun x=>by kernel_rfl
theorem VK:zm Tryz.prog (Ko Qe):=
 zm.recE (I:=I) (P:=Tryz.prog) (f:=67) (inS:=⟨[.sl 49],[]⟩) (cst:=[]) (outS:=⟨[.sl 49],[]⟩) (k:=0) (Dy) (by kernel_rfl) (fun S h=>CX S h)
theorem FL:zm Tryz.prog (UD Sl):=
 okC (A:=⟨[Mo ZM,Ko Qe],[(12,[7]),(15,[5])],[],0,[(9,⟨[7,8,24],⟨[.own 1109, .int .i64, .int .i64],[(1109, .sl 23)]⟩,[0,1,4,5,22,23],[],[],0,[7,8],⟨[.own 1109, .int .i64],[(1109, .sl 23)]⟩,[1109]⟩)],[(14,⟨[7,8,24],⟨[.own 1211, .int .i64, .int .i64],[(1211, .sl 23)]⟩,[],[],[],0,[],⟨[],[]⟩,[]⟩)],[]⟩) (exS:=⟨[.sl 23, .int .i64],[]⟩) Tryz.f28 (memC Nu (memC VK zC)) (by kernel_rfl) (by kernel_rfl) fun x=>by kernel_rfl
theorem Rl:zm Tryz.prog (uj zZ):=
 okC (A:=⟨[],[],[],0,[],[],[]⟩) (exS:=⟨[.bool],[]⟩) Tryz.f91 zC (by kernel_rfl) (by kernel_rfl) fun x=>by kernel_rfl
theorem uW:zm Tryz.prog (GK Nl):=
 okC (A:=⟨[uj zZ],[],[],0,[(1,⟨[0],⟨[.sl 49],[]⟩,[2],[],[],0,[0],⟨[.sl 49],[]⟩,[]⟩)],[],[]⟩) (exS:=⟨[.sl 49],[]⟩) Tryz.f107 (memC Rl zC) (by kernel_rfl) (by kernel_rfl) fun x=>by kernel_rfl
theorem wX:zm Tryz.prog (iK QZ):=
 okC (A:=⟨[uj zZ],[],[],0,[(1,⟨[0],⟨[.sl 49],[]⟩,[2],[],[],0,[0],⟨[.sl 49],[]⟩,[]⟩)],[],[]⟩) (exS:=⟨[.sl 49],[]⟩) Tryz.f106 (memC Rl zC) (by kernel_rfl) (by kernel_rfl) fun x=>by kernel_rfl
theorem WK:zm Tryz.prog (DD Aj):=
 okC (A:=⟨[uj zZ],[],[],0,[],[],[]⟩) (exS:=⟨[.bool],[]⟩) Tryz.f92 (memC Rl zC) (by kernel_rfl) (by kernel_rfl) fun x=>by kernel_rfl
theorem rY:zm Tryz.prog (uK Ho):=
 okC (A:=⟨[],[],[],1,[],[],[]⟩) (exS:=⟨[.bool],[]⟩) Tryz.f68 zC (by kernel_rfl) (by kernel_rfl) fun x=>by kernel_rfl
theorem mW:zm Tryz.prog (xJ Rs):=
 okC (A:=⟨[Mo ZM,uK Ho,Ko Qe],[],[],0,[(6,⟨[6],⟨[.int .i64],[]⟩,[1,2,3,5,7],[0],[],0,[6],⟨[.int .i64],[]⟩,[]⟩),(8,⟨[7],⟨[.int .i64],[]⟩,[1,2,3,5,6],[0],[],2,[7],⟨[.int .i64],[]⟩,[]⟩)],[],[]⟩) (exS:=⟨[.sl 49, .int .i64],[]⟩) Tryz.f29 (memC Nu (memC rY (memC VK zC))) (by kernel_rfl) (by kernel_rfl) fun x=>by kernel_rfl
theorem lY(Zj:List zb×List zg->Option (List zg))(hs:zm Tryz.prog (Su Zj)):zm Tryz.prog (Su (Q3 Zj)):=
 okC (A:=⟨[QU Zr,Su Zj],[(4,[3]),(7,[6])],[],1,[(2,⟨[0,10],⟨[.own 1212, .int .i64],[(1212, .sl 44)]⟩,[4,8,9],[],[],0,[0],⟨[.own 1212],[(1212, .sl 44)]⟩,[1212]⟩)],[(8,⟨[0,10],⟨[.own 1314, .int .i64],[(1314, .sl 44)]⟩,[],[],[],0,[],⟨[],[]⟩,[]⟩)],[]⟩) (exS:=⟨[.own 1],[(1, .sl 44)]⟩) Tryz.f63 (memC Hu (memC hs zC)) (by kernel_rfl) (by kernel_rfl) fun x=>by kernel_rfl
theorem pY:zm Tryz.prog (Su Zj):=
 zm.recE (I:=I) (P:=Tryz.prog) (f:=63) (inS:=⟨[.own 0, .sl 49],[(0, .sl 44)]⟩) (cst:=[]) (outS:=⟨[.own 1],[(1, .sl 44)]⟩) (k:=1) (Q3) (by kernel_rfl) (fun S h=>lY S h)
theorem tL:zm Tryz.prog (tK qR):=
 okC (A:=⟨[QU Zr,Su Zj],[(4,[3]),(7,[6])],[],0,[(2,⟨[0,10],⟨[.own 1316, .int .i64],[(1316, .sl 44)]⟩,[4,8,9],[],[],0,[0],⟨[.own 1316],[(1316, .sl 44)]⟩,[1316]⟩)],[(8,⟨[0,10],⟨[.own 1418, .int .i64],[(1418, .sl 44)]⟩,[],[],[],0,[],⟨[],[]⟩,[]⟩)],[]⟩) (exS:=⟨[.own 0],[(0, .sl 44)]⟩) Tryz.f63 (memC Hu (memC pY zC)) (by kernel_rfl) (by kernel_rfl) fun x=>by kernel_rfl
theorem PZ:zm Tryz.prog (iL qR):=XT ipOK (by kernel_rfl) tL
theorem oW:zm Tryz.prog (BK Ll):=
 okC (A:=⟨[Mo ZM,tK qR],[],[],0,[],[],[]⟩) (exS:=⟨[.sl 44, .int .i64],[]⟩) Tryz.f18 (memC Nu (memC tL zC)) (by kernel_rfl) (by kernel_rfl) fun x=>by kernel_rfl
theorem xX:zm Tryz.prog (jK Vl):=
 okC (A:=⟨[ZH strings_IndexByte,zT strings_HasPrefix,ay ZL],[],[],0,[],[],[]⟩) (exS:=⟨[.bool],[]⟩) Tryz.f87 (memC Z6 (memC zY (memC eD zC))) (by kernel_rfl) (by kernel_rfl) fun x=>by kernel_rfl
theorem M3:zm Tryz.prog (pM stringslite_TrimPrefix):=
 okC (A:=⟨[Qp stringslite_HasPrefix],[],[],0,[],[],[]⟩) (exS:=⟨[.str],[]⟩) Tryz.f197 (memC nM zC) (by kernel_rfl) (by kernel_rfl) fun x=>by kernel_rfl
theorem X0:zm Tryz.prog (YM strings_TrimPrefix):=
 okC (A:=⟨[pM stringslite_TrimPrefix],[],[],0,[],[],[]⟩) (exS:=⟨[.str],[]⟩) Tryz.f162 (memC M3 zC) (by kernel_rfl) (by kernel_rfl) fun x=>by kernel_rfl
theorem Ou:zm Tryz.prog (Oo ZA):=
 okC (A:=⟨[],[],[],0,[],[],[]⟩) (exS:=⟨[.bool],[]⟩) Tryz.f155 zC (by kernel_rfl) (by kernel_rfl) fun x=>by kernel_rfl
theorem JM:zm Tryz.prog (yD Qm):=
 okC (A:=⟨[YM strings_TrimPrefix,Oo ZA],[],[],0,[],[],[]⟩) (exS:=⟨[.bool],[]⟩) Tryz.f122 (memC X0 (memC Ou zC)) (by kernel_rfl) (by kernel_rfl) fun x=>by kernel_rfl
theorem vL:zm Tryz.prog (nD Tt):=
 okC (A:=⟨[],[],[],0,[],[],[]⟩) (exS:=⟨[.bool],[]⟩) Tryz.f157 zC (by kernel_rfl) (by kernel_rfl) fun x=>by kernel_rfl
theorem oD:zm Tryz.prog (Ny Qa):=
 okC (A:=⟨[nD Tt,Oo ZA],[],[],0,[],[],[]⟩) (exS:=⟨[.bool],[]⟩) Tryz.f153 (memC vL (memC Ou zC)) (by kernel_rfl) (by kernel_rfl) fun x=>by kernel_rfl
theorem xZ:zm Tryz.prog (WM strings_Contains):=
 okC (A:=⟨[CB Pj],[],[],0,[],[],[]⟩) (exS:=⟨[.bool],[]⟩) Tryz.f154 (memC bH zC) (by kernel_rfl) (by kernel_rfl) fun x=>by kernel_rfl
theorem rW:zm Tryz.prog (DK bn):=
 okC (A:=⟨[ZH strings_IndexByte,yD Qm,zT strings_HasPrefix,Ny Qa,WM strings_Contains],[],[],0,[],[(8,⟨[3,4,5,6,7,25],⟨[.bool, .bool, .bool, .bool, .bool, .bool],[]⟩,[1,16],[],[],0,[],⟨[],[]⟩,[]⟩),(14,⟨[3,4,5,6,7,63],⟨[.bool, .bool, .bool, .bool, .bool, .bool],[]⟩,[],[],[],0,[],⟨[],[]⟩,[]⟩),(22,⟨[4,5,6,7,94],⟨[.bool, .bool, .bool, .bool, .bool],[]⟩,[3],[],[],0,[],⟨[],[]⟩,[]⟩),(24,⟨[3,4,5,6,7],⟨[.bool, .bool, .bool, .bool, .bool],[]⟩,[1],[0],[],0,[],⟨[],[]⟩,[]⟩)],[]⟩) (exS:=⟨[.bool],[]⟩) Tryz.f115 (memC Z6 (memC JM (memC zY (memC oD (memC xZ zC))))) (by kernel_rfl) (by kernel_rfl) fun x=>by kernel_rfl
theorem RZ:zm Tryz.prog (jL ZC):=
 okC (A:=⟨[],[],[],1,[],[],[]⟩) (exS:=⟨[.bool],[]⟩) Tryz.f116 zC (by kernel_rfl) (by kernel_rfl) fun x=>by kernel_rfl
theorem IL:zm Tryz.prog (VD Q0):=
 okC (A:=⟨[jL ZC,gy ZW],[],[],0,[],[(11,⟨[5],⟨[.int .i64],[]⟩,[3],[0],[],0,[],⟨[],[]⟩,[]⟩)],[]⟩) (exS:=⟨[.int .i64],[]⟩) Tryz.f80 (memC RZ (memC fD zC)) (by kernel_rfl) (by kernel_rfl) fun x=>by kernel_rfl
theorem KL:zm Tryz.prog (YD QB):=
 okC (A:=⟨[DK bn,VD Q0],[],[],0,[(4,⟨[10],⟨[.int .i64],[]⟩,[0,8,9],[],[],0,[],⟨[],[]⟩,[]⟩)],[],[]⟩) (exS:=⟨[.int .i64],[]⟩) Tryz.f79 (memC rW (memC IL zC)) (by kernel_rfl) (by kernel_rfl) fun x=>by kernel_rfl
theorem eZ(zk:List zb->Option Bool)(h_decl_closers:zm Tryz.prog (qa zk)):zm Tryz.prog (MM (qb zk)):=
 okC (A:=⟨[uj zZ,qa zk],[],[],0,[],[],[]⟩) (exS:=⟨[.bool],[]⟩) Tryz.f128 (memC Rl (memC h_decl_closers zC)) (by kernel_rfl) (by kernel_rfl) fun x=>by kernel_rfl
theorem O3(zk:List zb->Option Bool)(h_decl_closers:zm Tryz.prog (qa zk)):zm Tryz.prog (rM (Zo zk)):=
 okC (A:=⟨[MM (qb zk)],[],[],0,[(2,⟨[8],⟨[.int .i64],[]⟩,[0,1,7],[],[],0,[],⟨[],[]⟩,[]⟩)],[],[]⟩) (exS:=⟨[.int .i64],[]⟩) Tryz.f129 (memC (eZ zk h_decl_closers) zC) (by kernel_rfl) (by kernel_rfl) fun x=>by kernel_rfl
theorem V4(zk:List zb->Option Bool)(h_decl_closers:zm Tryz.prog (qa zk)):zm Tryz.prog (QI (zW zk)):=
 okC (A:=⟨[rM (Zo zk)],[],[],0,[],[],[]⟩) (exS:=⟨[.bool],[]⟩) Tryz.f89 (memC (O3 zk h_decl_closers) zC) (by kernel_rfl) (by kernel_rfl) fun x=>by kernel_rfl
theorem XZ(zk:List zb->Option Bool)(hs:zm Tryz.prog (qa zk)):zm Tryz.prog (qa (QA zk)):=
 okC (A:=⟨[QI (zW zk)],[],[],0,[],[],[]⟩) (exS:=⟨[.bool],[]⟩) Tryz.f88 (memC (V4 zk hs) zC) (by kernel_rfl) (by kernel_rfl) fun x=>by kernel_rfl
theorem TZ:zm Tryz.prog (qa zk):=
 zm.recE (I:=I) (P:=Tryz.prog) (f:=88) (inS:=⟨[.sl 49],[]⟩) (cst:=[]) (outS:=⟨[.bool],[]⟩) (k:=0) (QA) (by kernel_rfl) (fun S h=>XZ S h)
theorem UZ:zm Tryz.prog (kL Ro):=
 okC (A:=⟨[uj zZ,DD Aj],[],[],0,[],[],[]⟩) (exS:=⟨[.bool],[]⟩) Tryz.f90 (memC Rl (memC WK zC)) (by kernel_rfl) (by kernel_rfl) fun x=>by kernel_rfl
theorem K4:zm Tryz.prog (Q9 Zd):=
 okC (A:=⟨[kL Ro],[],[],0,[(2,⟨[8],⟨[.int .i64],[]⟩,[0,1,7],[],[],0,[],⟨[],[]⟩,[]⟩)],[],[]⟩) (exS:=⟨[.int .i64],[]⟩) Tryz.f129 (memC UZ zC) (by kernel_rfl) (by kernel_rfl) fun x=>by kernel_rfl
theorem O4:zm Tryz.prog (Qw zH):=
 okC (A:=⟨[Q9 Zd],[],[],0,[],[],[]⟩) (exS:=⟨[.bool],[]⟩) Tryz.f89 (memC K4 zC) (by kernel_rfl) (by kernel_rfl) fun x=>by kernel_rfl
theorem ML:zm Tryz.prog (aD QY):=
 okC (A:=⟨[BK Ll,jK Vl,YD QB,qa zk,Qw zH,zT strings_HasPrefix,uj zZ],[],[],0,[],[],[]⟩) (exS:=⟨[.int .i64],[]⟩) Tryz.f52 (memC oW (memC xX (memC KL (memC TZ (memC O4 (memC zY (memC Rl zC))))))) (by kernel_rfl) (by kernel_rfl) fun x=>by kernel_rfl
theorem pJ:zm Tryz.prog (nC Kl):=
 okC (A:=⟨[GK Nl,iK QZ,uj zZ,zT strings_HasPrefix,ay ZL,gy ZW,DD Aj,xJ Rs,aD QY],[],[],0,[],[(7,⟨[0],⟨[.sl 49],[(0, .cells 66 [.str, .nilv, .bool]),(1, .cells 66 [.str, .nilv, .bool])]⟩,[2,4],[],[0,1],0,[],⟨[],[]⟩,[]⟩),(16,⟨[0],⟨[.sl 49],[(0, .cells 66 [.str, .nilv, .bool]),(1, .cells 66 [.str, .nilv, .bool])]⟩,[],[],[0,1],0,[],⟨[],[]⟩,[]⟩)],[]⟩) (exS:=⟨[.optr 0, .bool],[(0, .row 66)]⟩) Tryz.f73 (memC uW (memC wX (memC Rl (memC zY (memC eD (memC fD (memC WK (memC mW (memC ML zC))))))))) (by kernel_rfl) (by kernel_rfl) fun x=>by kernel_rfl
theorem wI:zm Tryz.prog (jB Al):=
 okC (A:=⟨[UD Sl,nC Kl],[(10,[2])],[],0,[(6,⟨[6,21],⟨[.own 1420, .int .i64],[(1420, .sl 66)]⟩,[2,3,19,20],[],[],0,[6],⟨[.own 1420],[(1420, .sl 66)]⟩,[1420]⟩)],[(11,⟨[6,21],⟨[.own 1522, .int .i64],[(1522, .sl 66)]⟩,[],[],[],0,[],⟨[],[]⟩,[]⟩)],[]⟩) (exS:=⟨[.sl 66, .int .i64],[]⟩) Tryz.f39 (memC FL (memC pJ zC)) (by kernel_rfl) (by kernel_rfl) fun x=>by kernel_rfl
theorem wW:zm Tryz.prog (JK jw):=
 okC (A:=⟨[xD QQ,kG parseF,jB Al],[],[],0,[],[],[]⟩) (exS:=⟨[.sl 66, .int .i64],[]⟩) Tryz.f41 (memC IM (memC DT (memC wI zC))) (by kernel_rfl) (by kernel_rfl) fun x=>by kernel_rfl
theorem JL:zm Tryz.prog (XD ZK):=
 okC (A:=⟨[zT strings_HasPrefix],[],[],0,[],[],[]⟩) (exS:=⟨[.int .i64],[]⟩) Tryz.f118 (memC zY zC) (by kernel_rfl) (by kernel_rfl) fun x=>by kernel_rfl
theorem CE:zm Tryz.prog (ky z8):=
 okC (A:=⟨[Oo ZA,nD Tt,UJ Xw],[(2,[2]),(3,[1]),(5,[1])],[],1,[],[],[]⟩) (exS:=⟨[.own 1],[(1, .sl 5)]⟩) Tryz.f120 (memC Ou (memC vL (memC KW zC))) (by kernel_rfl) (by kernel_rfl) fun x=>by kernel_rfl
theorem xY:zm Tryz.prog (AL Rt):=
 okC (A:=⟨[Ny Qa,Oo ZA,ky z8],[(6,[2])],[],0,[(2,⟨[0,11],⟨[.own 1524, .int .i64],[(1524, .sl 5)]⟩,[1,2,6,10],[],[],0,[0],⟨[.own 1524],[(1524, .sl 5)]⟩,[1524]⟩)],[(8,⟨[0,11],⟨[.own 1626, .int .i64],[(1626, .sl 5)]⟩,[],[],[],0,[],⟨[],[]⟩,[]⟩)],[]⟩) (exS:=⟨[.own 0],[(0, .sl 5)]⟩) Tryz.f117 (memC oD (memC Ou (memC CE zC))) (by kernel_rfl) (by kernel_rfl) fun x=>by kernel_rfl
theorem sW:zm Tryz.prog (EK Yr):=
 okC (A:=⟨[ZH strings_IndexByte,XD ZK,AL Rt],[],[],0,[],[],[]⟩) (exS:=⟨[.str, .int .i64],[]⟩) Tryz.f83 (memC Z6 (memC JL (memC xY zC))) (by kernel_rfl) (by kernel_rfl) fun x=>by kernel_rfl
theorem wY:zm Tryz.prog (yK qQ):=
 okC (A:=⟨[Ny Qa,Oo ZA,ky z8],[(6,[2])],[],1,[(2,⟨[0,11],⟨[.own 1628, .int .i64],[(1628, .sl 5)]⟩,[1,2,6,10],[],[],0,[0],⟨[.own 1628],[(1628, .sl 5)]⟩,[1628]⟩)],[(8,⟨[0,11],⟨[.own 1730, .int .i64],[(1730, .sl 5)]⟩,[],[],[],0,[],⟨[],[]⟩,[]⟩)],[]⟩) (exS:=⟨[.own 1],[(1, .sl 5)]⟩) Tryz.f117 (memC oD (memC Ou (memC CE zC))) (by kernel_rfl) (by kernel_rfl) fun x=>by kernel_rfl
theorem uX:zm Tryz.prog (fK Vx):=
 okC (A:=⟨[],[],[],0,[],[],[]⟩) (exS:=⟨[.optr 0],[(0, .row 149)]⟩) Tryz.f123 zC (by kernel_rfl) (by kernel_rfl) fun x=>by kernel_rfl
theorem gZ:zm Tryz.prog (EM qH):=
 okC (A:=⟨[VJ Yw,NI bv,iG jm],[(2,[1]),(6,[1])],[],1,[],[(3,⟨[0,1],⟨[.own 2252, .int .i64],[(2252, .sl 5)]⟩,[2],[],[],0,[],⟨[],[]⟩,[]⟩),(9,⟨[0],⟨[.own 2355],[(2355, .sl 5)]⟩,[],[],[],0,[],⟨[],[]⟩,[]⟩)],[]⟩) (exS:=⟨[.own 1],[(1, .sl 5)]⟩) Tryz.f121 (memC LW (memC SV (memC xS zC))) (by kernel_rfl) (by kernel_rfl) fun x=>by kernel_rfl
theorem vY:zm Tryz.prog (xK Pt):=
 okC (A:=⟨[XD ZK,yK qQ,ZH strings_IndexByte,ky z8,EM qH,yD Qm,zT strings_HasPrefix,fK Vx],[(5,[7]),(7,[1]),(12,[1]),(14,[1]),(20,[2]),(22,[1]),(30,[2]),(32,[1]),(38,[4])],[],1,[(16,⟨[0,67],⟨[.own 2045, .int .i64],[(2045, .sl 5)]⟩,[3,4,65,66],[1,4],[],1,[0],⟨[.own 2045],[(2045, .sl 5)]⟩,[2045]⟩),(26,⟨[0,93],⟨[.own 2149, .int .i64],[(2149, .sl 5)]⟩,[3,4,91,92],[1,3],[],3,[0],⟨[.own 2149],[(2149, .sl 5)]⟩,[2149]⟩)],[(12,⟨[5],⟨[.int .i64],[(0, .sl 5)]⟩,[0,3],[1],[0],0,[],⟨[],[]⟩,[]⟩),(21,⟨[0,67],⟨[.own 2147, .int .i64],[(2147, .sl 5)]⟩,[],[],[],0,[],⟨[],[]⟩,[]⟩),(31,⟨[0,93],⟨[.own 2251, .int .i64],[(2251, .sl 5)]⟩,[],[],[],0,[],⟨[],[]⟩,[]⟩)],[]⟩) (exS:=⟨[.own 1],[(1, .sl 5)]⟩) Tryz.f81 (memC JL (memC wY (memC Z6 (memC CE (memC gZ (memC JM (memC zY (memC uX zC)))))))) (by kernel_rfl) (by kernel_rfl) fun x=>by kernel_rfl
theorem Y0:zm Tryz.prog (aM qN):=
 okC (A:=⟨[],[],[],0,[(4,⟨[13],⟨[.int .i64],[]⟩,[0,1,12],[],[],0,[],⟨[],[]⟩,[]⟩)],[],[]⟩) (exS:=⟨[.bool],[]⟩) Tryz.f82 zC (by kernel_rfl) (by kernel_rfl) fun x=>by kernel_rfl
theorem vX:zm Tryz.prog (gK Ht):=
 okC (A:=⟨[YD QB,VD Q0,xK Pt,xD QQ,aM qN],[(24,[5])],[],0,[(7,⟨[5,6,7],⟨[.own 2462, .own 2463, .int .i64],[(2462, .sl 5),(2463, .sl 119)]⟩,[0],[],[],0,[5],⟨[.own 2462],[(2462, .sl 5)]⟩,[2462]⟩),(11,⟨[9,36],⟨[.own 2043, .int .i64],[(2043, .sl 5)]⟩,[5,6,7,8,34,35],[2462,2463],[],2,[9],⟨[.own 2043],[(2043, .sl 5)]⟩,[2043]⟩)],[(17,⟨[5,6,7,9],⟨[.own 2462, .own 2463, .int .i64, .own 2565],[(2462, .sl 5),(2463, .sl 119),(2565, .sl 5)]⟩,[8],[],[2462,2463],0,[],⟨[],[]⟩,[]⟩),(21,⟨[5,6,7],⟨[.own 2462, .own 2463, .int .i64],[(2462, .sl 5),(2463, .sl 119),(2566, .row 119)]⟩,[9,12],[2565],[2462,2463,2566],0,[],⟨[],[]⟩,[]⟩),(24,⟨[5,6,7],⟨[.own 2670, .own 2463, .int .i64],[(2463, .sl 119),(2670, .sl 5)]⟩,[],[2566],[2463],0,[],⟨[],[]⟩,[]⟩)],[]⟩) (exS:=⟨[.str, .int .i64],[]⟩) Tryz.f46 (memC KL (memC IL (memC vY (memC IM (memC Y0 zC))))) (by kernel_rfl) (by kernel_rfl) fun x=>by kernel_rfl
theorem nW:zm Tryz.prog (yJ Us):=
 okC (A:=⟨[Mo ZM,iL qR,gK Ht],[],[],0,[],[],[]⟩) (exS:=⟨[.str, .int .i64],[]⟩) Tryz.f20 (memC Nu (memC PZ (memC vX zC))) (by kernel_rfl) (by kernel_rfl) fun x=>by kernel_rfl
theorem vW:zm Tryz.prog (IK kr):=
 okC (A:=⟨[aD QY,EK Yr,yJ Us],[],[],0,[],[(13,⟨[8],⟨[.str],[]⟩,[],[],[],0,[],⟨[],[]⟩,[]⟩)],[]⟩) (exS:=⟨[.str, .int .i64],[]⟩) Tryz.f48 (memC ML (memC sW (memC nW zC))) (by kernel_rfl) (by kernel_rfl) fun x=>by kernel_rfl
theorem xW:zm Tryz.prog (LK mr):=
 okC (A:=⟨[IK kr,RG Nk],[(12,[2])],[(14,[(4,none)])],0,[(6,⟨[4,5,16],⟨[.own 2671, .bool, .int .i64],[(2671, .sl 9)]⟩,[14,15],[],[],0,[4,5],⟨[.own 2671, .bool],[(2671, .sl 9)]⟩,[2671]⟩)],[],[]⟩) (exS:=⟨[.str, .int .i64],[]⟩) Tryz.f50 (memC vW (memC GQ zC)) (by kernel_rfl) (by kernel_rfl) fun x=>by kernel_rfl
theorem tY:zm Tryz.prog (vK Yx):=
 okC (A:=⟨[JK jw,LK mr],[],[],0,[],[],[]⟩) (exS:=⟨[.bool],[]⟩) Tryz.f55 (memC wW (memC xW zC)) (by kernel_rfl) (by kernel_rfl) fun x=>by kernel_rfl
theorem uY:zm Tryz.prog (wK Io):=
 okC (A:=⟨[vK Yx],[],[],0,[],[],[]⟩) (exS:=⟨[.bool],[]⟩) Tryz.f54 (memC tY zC) (by kernel_rfl) (by kernel_rfl) fun x=>by kernel_rfl
theorem JW:zm Tryz.prog (TJ Yj):=
 okC (A:=⟨[Mo ZM,nC Kl],[],[],0,[],[],[]⟩) (exS:=⟨[.optr 0, .bool, .int .i64],[(0, .row 66)]⟩) Tryz.f37 (memC Nu (memC pJ zC)) (by kernel_rfl) (by kernel_rfl) fun x=>by kernel_rfl
theorem KY(QD:List zb×List zb->Option Bool)(hs:zm Tryz.prog (Eu QD)):zm Tryz.prog (Eu (Gy QD)):=
 okC (A:=⟨[Eu QD],[],[],0,[(4,⟨[5],⟨[.int .i64],[]⟩,[0,1],[],[],0,[],⟨[],[]⟩,[]⟩)],[],[]⟩) (exS:=⟨[.bool],[]⟩) Tryz.f22 (memC hs zC) (by kernel_rfl) (by kernel_rfl) fun x=>by kernel_rfl
theorem tX:zm Tryz.prog (Eu QD):=
 zm.recE (I:=I) (P:=Tryz.prog) (f:=22) (inS:=⟨[.sl 49, .sl 49],[]⟩) (cst:=[]) (outS:=⟨[.bool],[]⟩) (k:=0) (Gy) (by kernel_rfl) (fun S h=>KY S h)
theorem oL:zm Tryz.prog (mD Qs):=
 okC (A:=⟨[Eu QD],[],[],0,[],[],[]⟩) (exS:=⟨[.bool],[]⟩) Tryz.f43 (memC tX zC) (by kernel_rfl) (by kernel_rfl) fun x=>by kernel_rfl
theorem pX:zm Tryz.prog (dK Ws):=
 okC (A:=⟨[mD Qs],[],[],1,[(4,⟨[5],⟨[.int .i64],[]⟩,[0,1],[],[],0,[],⟨[],[]⟩,[]⟩)],[],[]⟩) (exS:=⟨[.bool],[]⟩) Tryz.f44 (memC oL zC) (by kernel_rfl) (by kernel_rfl) fun x=>by kernel_rfl
theorem dZ:zm Tryz.prog (LM Uy):=
 okC (A:=⟨[pK Yt,sK ut,wK Io,UD Sl,jB Al,TJ Yj,mD Qs,dK Ws],[],[(14,[(67,none)])],0,[(10,⟨[8,9],⟨[.own 2673, .int .i64],[(2673, .sl 66)]⟩,[3,5,7],[0],[],0,[8],⟨[.own 2673],[(2673, .sl 66)]⟩,[2673]⟩)],[(11,⟨[8,9],⟨[.own 2775, .int .i64],[(2775, .sl 66)]⟩,[],[],[],0,[],⟨[],[]⟩,[]⟩)],[]⟩) (exS:=⟨[.bool],[]⟩) Tryz.f11 (memC mY (memC nY (memC uY (memC FL (memC wI (memC JW (memC oL (memC pX zC)))))))) (by kernel_rfl) (by kernel_rfl) fun x=>by kernel_rfl
end Go.Lv.VT
end
