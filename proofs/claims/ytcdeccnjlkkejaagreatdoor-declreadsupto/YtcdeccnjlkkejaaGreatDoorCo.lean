/- Contracts. -/
import Derived.Test.YtcdeccnjlkkejaaGreatDoorTx
import Derived.Test.YtcdeccnjlkkejaaGreatDoorIp
import Derived.Test.YtcdeccnjlkkejaaGreatDoorLf
import Derived.Test.YtcdeccnjlkkejaaGreatDoorPa
noncomputable section
set_option linter.unusedSimpArgs false
set_option linter.unusedVariables false
namespace Go.Lv.VT
set_option maxRecDepth 100000
open Go.Proofs
theorem okC{con:Con I}{A:Env0 I}{exS:StSh}(f:Go.Func)(hS: ∀c∈A.S,zl Tryz.prog c)(hf:Tryz.prog.funcs[con.f]? =some f)(h:chk con A f=true)(he: ∀x,evF2 A T FK f.ntmps (rsl f) (body f) con exS x=con.F x):zl Tryz.prog con:=
 okC0 mixed ipOK tok rfl rfl hS hf h he
def ry(F:List zb×Int->Option Int):Con I:=⟨58,⟨[.sl 49, .int .i64],[]⟩,[],⟨[.int .i64],[]⟩,0,F⟩
def Uz(F:Int->Option Int):Con I:=⟨25,⟨[.int .u8],[]⟩,[],⟨[.int .u8],[]⟩,0,F⟩
def Lu(F:List zb->Option Int):Con I:=⟨59,⟨[.sl 49],[]⟩,[],⟨[.int .i64],[]⟩,0,F⟩
def YR(F:List zb->Option Bool):Con I:=⟨15,⟨[.sl 49],[]⟩,[],⟨[.bool],[]⟩,0,F⟩
def Ku(F:Int->Option Int):Con I:=⟨61,⟨[.int .u8],[]⟩,[],⟨[.int .u8],[]⟩,0,F⟩
def Ty(F:List zb×Int->Option zK):Con I:=⟨65,⟨[.sl 49, .int .u8],[]⟩,[],⟨[.val 101],[]⟩,0,F⟩
def wy(F:List zb->Option Int):Con I:=⟨32,⟨[.sl 49],[]⟩,[],⟨[.int .i64],[]⟩,0,F⟩
def Bn(F:zb×Int->Option Bool):Con I:=⟨91,⟨[.val 49, .int .u8],[]⟩,[],⟨[.bool],[]⟩,0,F⟩
def XQ(F:List zb->Option (List zb)):Con I:=⟨107,⟨[.sl 49],[]⟩,[],⟨[.sl 49],[]⟩,0,F⟩
def vQ(F:List zb->Option (List zb)):Con I:=⟨106,⟨[.sl 49],[]⟩,[],⟨[.sl 49],[]⟩,0,F⟩
def QN(F:Str×Str->Option Bool):Con I:=⟨130,⟨[.str, .str],[]⟩,[],⟨[.bool],[]⟩,0,F⟩
def ZI(F:Str×Str->Option Bool):Con I:=⟨93,⟨[.str, .str],[]⟩,[],⟨[.bool],[]⟩,0,F⟩
def FE(F:Str->Option Str):Con I:=⟨108,⟨[.str],[]⟩,[],⟨[.str],[]⟩,0,F⟩
def IE(F:Str×Str->Option Bool):Con I:=⟨109,⟨[.str, .str],[]⟩,[],⟨[.bool],[]⟩,0,F⟩
def yI(F:zb->Option Bool):Con I:=⟨92,⟨[.val 49],[]⟩,[],⟨[.bool],[]⟩,0,F⟩
def kR(F:Int×List zb->Option Bool):Con I:=⟨68,⟨[.int .i64, .optr 0],[(0, .row 23)]⟩,[0],⟨[.bool],[]⟩,0,F⟩
def kT(F:List zb->Option (List zb)):Con I:=⟨98,⟨[.sl 49],[]⟩,[],⟨[.own 0],[(0, .sl 49)]⟩,1,F⟩
def Eu(F:List zb->Option (List zb)):Con I:=⟨67,⟨[.sl 49],[]⟩,[],⟨[.sl 49],[]⟩,0,F⟩
def KQ(F:List zb->Option (List zb×Int)):Con I:=⟨29,⟨[.sl 49],[]⟩,[],⟨[.sl 49, .int .i64],[]⟩,0,F⟩
def Gz(F:List zb×List zf->Option (List zf)):Con I:=⟨63,⟨[.own 0, .sl 49],[(0, .sl 44)]⟩,[],⟨[.own 1],[(1, .sl 44)]⟩,1,F⟩
def jR(F:List zb->Option (List zf)):Con I:=⟨63,⟨[.nilv, .sl 49],[]⟩,[],⟨[.own 0],[(0, .sl 44)]⟩,1,F⟩
def LQ(F:List zb->Option (List zf×Int)):Con I:=⟨18,⟨[.sl 49],[]⟩,[],⟨[.sl 44, .int .i64],[]⟩,0,F⟩
def QM(F:Str×Int->Option Int):Con I:=⟨119,⟨[.str, .int .u8],[]⟩,[],⟨[.int .i64],[]⟩,0,F⟩
def wQ(F:Str->Option Bool):Con I:=⟨87,⟨[.str],[]⟩,[],⟨[.bool],[]⟩,0,F⟩
def vT(F:Str×Str->Option Str):Con I:=⟨197,⟨[.str, .str],[]⟩,[],⟨[.str],[]⟩,0,F⟩
def jT(F:Str×Str->Option Str):Con I:=⟨162,⟨[.str, .str],[]⟩,[],⟨[.str],[]⟩,0,F⟩
def KJ(F:Int->Option Bool):Con I:=⟨155,⟨[.int .u8],[]⟩,[],⟨[.bool],[]⟩,0,F⟩
def RS(F:Str->Option Bool):Con I:=⟨122,⟨[.str],[]⟩,[],⟨[.bool],[]⟩,0,F⟩
def mR(F:Int->Option Bool):Con I:=⟨157,⟨[.int .u8],[]⟩,[],⟨[.bool],[]⟩,0,F⟩
def tQ(F:Int->Option Bool):Con I:=⟨153,⟨[.int .u8],[]⟩,[],⟨[.bool],[]⟩,0,F⟩
def eT(F:Str×Str->Option Bool):Con I:=⟨154,⟨[.str, .str],[]⟩,[],⟨[.bool],[]⟩,0,F⟩
def NQ(F:zf->Option Bool):Con I:=⟨115,⟨[.val 44],[]⟩,[],⟨[.bool],[]⟩,0,F⟩
def NS(F:(Int×Int)×List zf->Option Bool):Con I:=⟨116,⟨[.int .i64, .int .u8, .optr 0],[(0, .row 22)]⟩,[0],⟨[.bool],[]⟩,0,F⟩
def sQ(F:List zf->Option Int):Con I:=⟨80,⟨[.sl 44],[]⟩,[],⟨[.int .i64],[]⟩,0,F⟩
def uQ(F:List zf->Option Int):Con I:=⟨79,⟨[.sl 44],[]⟩,[],⟨[.int .i64],[]⟩,0,F⟩
def vS(F:zb->Option Bool):Con I:=⟨128,⟨[.val 49],[]⟩,[],⟨[.bool],[]⟩,0,F⟩
def EU(F:List zb->Option Int):Con I:=⟨129,⟨[.sl 49, .clo 128 []],[]⟩,[],⟨[.int .i64],[]⟩,0,F⟩
def Q9(F:List zb->Option Bool):Con I:=⟨89,⟨[.sl 49, .clo 128 []],[]⟩,[],⟨[.bool],[]⟩,0,F⟩
def qG(F:List zb->Option Bool):Con I:=⟨88,⟨[.sl 49],[]⟩,[],⟨[.bool],[]⟩,0,F⟩
def SS(F:zb->Option Bool):Con I:=⟨90,⟨[.val 49],[]⟩,[],⟨[.bool],[]⟩,0,F⟩
def DU(F:List zb->Option Int):Con I:=⟨129,⟨[.sl 49, .clo 90 []],[]⟩,[],⟨[.int .i64],[]⟩,0,F⟩
def QS(F:List zb->Option Bool):Con I:=⟨89,⟨[.sl 49, .clo 90 []],[]⟩,[],⟨[.bool],[]⟩,0,F⟩
def xQ(F:Za->Option Int):Con I:=⟨52,⟨[.val 66],[]⟩,[],⟨[.int .i64],[]⟩,0,F⟩
def VI(F:List zb->Option (Za×Bool)):Con I:=⟨73,⟨[.sl 49],[]⟩,[],⟨[.val 66, .bool],[]⟩,0,F⟩
def XP(F:List zb->Option (Za×Bool×Int)):Con I:=⟨37,⟨[.sl 49],[]⟩,[],⟨[.val 66, .bool, .int .i64],[]⟩,0,F⟩
def Qm(F:List zb->Option (List zf)):Con I:=⟨36,⟨[.sl 49],[]⟩,[],⟨[.sl 44],[]⟩,0,F⟩
def Tz(F:List zb×Int->Option Bool):Con I:=⟨66,⟨[.sl 49, .int .u8],[]⟩,[],⟨[.bool],[]⟩,0,F⟩
def wD(F:List zb->Option Int):Con I:=⟨27,⟨[.sl 49],[]⟩,[],⟨[.int .i64],[]⟩,0,F⟩
def UE(F:List zb->Option (List zb)):Con I:=⟨110,⟨[.sl 49],[]⟩,[],⟨[.sl 49],[]⟩,0,F⟩
def yD(F:Int->Option Int):Con I:=⟨150,⟨[.int .u8],[]⟩,[],⟨[.int .u8],[]⟩,0,F⟩
def CE(F:Str->Option Str):Con I:=⟨105,⟨[.str],[]⟩,[],⟨[.str],[]⟩,0,F⟩
def EE(F:Str×Str->Option Bool):Con I:=⟨72,⟨[.str, .str],[]⟩,[],⟨[.bool],[]⟩,0,F⟩
def xR(F:List zb->Option (List zb×Bool)):Con I:=⟨111,⟨[.sl 49],[]⟩,[],⟨[.sl 49, .bool],[]⟩,0,F⟩
def UR(F:Str->Option Bool):Con I:=⟨94,⟨[.str],[]⟩,[],⟨[.bool],[]⟩,0,F⟩
def aR(F:Str->Option Bool):Con I:=⟨102,⟨[.str],[]⟩,[],⟨[.bool],[]⟩,0,F⟩
def Qc(F:Int->Option Bool):Con I:=⟨148,⟨[.int .u8],[]⟩,[],⟨[.bool],[]⟩,0,F⟩
def lQ(F:Str->Option Bool):Con I:=⟨103,⟨[.str],[]⟩,[],⟨[.bool],[]⟩,0,F⟩
def Ez(F:Int->Option Bool):Con I:=⟨178,⟨[.int .u8],[]⟩,[],⟨[.bool],[]⟩,0,F⟩
def Qy(F:Str×Int->Option Int):Con I:=⟨217,⟨[.str, .int .i64],[]⟩,[],⟨[.int .u8],[]⟩,0,F⟩
def vD(F:Str×Int->Option Int):Con I:=⟨179,⟨[.str, .int .i64],[]⟩,[],⟨[.int .i64],[]⟩,0,F⟩
def JJ(F:Unit->Option Str):Con I:=⟨244,⟨[],[]⟩,[],⟨[.str],[]⟩,0,F⟩
def IQ(F:Int->Option Int):Con I:=⟨245,⟨[.int .u8],[]⟩,[],⟨[.int .i64],[]⟩,0,F⟩
def oQ(F:Int->Option Str):Con I:=⟨246,⟨[.int .i64],[]⟩,[],⟨[.str],[]⟩,0,F⟩
def Q7(F:Str×Int->Option (Str×Int)):Con I:=⟨218,⟨[.str, .int .i64],[]⟩,[],⟨[.str, .int .i64],[]⟩,0,F⟩
def JS(F:Str×Int->Option (zf×Int)):Con I:=⟨180,⟨[.str, .int .i64],[]⟩,[],⟨[.val 44, .int .i64],[]⟩,0,F⟩
def rJ(F:Int->Option Bool):Con I:=⟨198,⟨[.int .u8],[]⟩,[],⟨[.bool],[]⟩,0,F⟩
def tJ(F:Int->Option Bool):Con I:=⟨163,⟨[.int .u8],[]⟩,[],⟨[.bool],[]⟩,0,F⟩
def QY(F:Str×Int->Option Bool):Con I:=⟨181,⟨[.str, .int .i64],[]⟩,[],⟨[.bool],[]⟩,0,F⟩
def xD(F:Str×Int->Option (Str×Int)):Con I:=⟨182,⟨[.str, .int .i64],[]⟩,[],⟨[.str, .int .i64],[]⟩,0,F⟩
def sJ(F:Str×Int->Option Bool):Con I:=⟨183,⟨[.str, .int .i64],[]⟩,[],⟨[.bool],[]⟩,0,F⟩
def uS(F:Str×Int->Option Bool):Con I:=⟨184,⟨[.str, .int .i64],[]⟩,[],⟨[.bool],[]⟩,0,F⟩
def KS(F:Str×Int->Option Int):Con I:=⟨247,⟨[.str, .int .i64],[]⟩,[],⟨[.int .i64],[]⟩,0,F⟩
def FT(F:Str×Int->Option (Int×Bool)):Con I:=⟨219,⟨[.str, .int .i64],[]⟩,[],⟨[.int .i64, .bool],[]⟩,0,F⟩
def YT(F:Str->Option Int):Con I:=⟨220,⟨[.str],[]⟩,[],⟨[.int .i64],[]⟩,0,F⟩
def nS(F:Str×Int->Option (zf×Int)):Con I:=⟨185,⟨[.str, .int .i64],[]⟩,[],⟨[.val 44, .int .i64],[]⟩,0,F⟩
def wI(F:Str×Int×Str->Option Bool):Con I:=⟨186,⟨[.str, .int .i64, .str],[]⟩,[],⟨[.bool],[]⟩,0,F⟩
def GQ(F:Str×Int->Option (zf×Int)):Con I:=⟨248,⟨[.str, .int .i64],[]⟩,[],⟨[.val 44, .int .i64],[]⟩,0,F⟩
def XT(F:Int->Option Bool):Con I:=⟨249,⟨[.int .u8],[]⟩,[],⟨[.bool],[]⟩,0,F⟩
def FQ(F:Str×Int->Option (zf×Int)):Con I:=⟨221,⟨[.str, .int .i64],[]⟩,[],⟨[.val 44, .int .i64],[]⟩,0,F⟩
def mQ(F:Str×Int->Option (zf×Int)):Con I:=⟨187,⟨[.str, .int .i64],[]⟩,[],⟨[.val 44, .int .i64],[]⟩,0,F⟩
def nQ(F:Int->Option Int):Con I:=⟨188,⟨[.int .u8],[]⟩,[],⟨[.int .u8],[]⟩,0,F⟩
def xI(F:Str×Int->Option (zf×Int)):Con I:=⟨149,⟨[.str, .int .i64],[]⟩,[],⟨[.val 44, .int .i64],[]⟩,0,F⟩
def bR(F:Int->Option Bool):Con I:=⟨104,⟨[.int .u8],[]⟩,[],⟨[.bool],[]⟩,0,F⟩
def kQ(F:zf->Option Bool):Con I:=⟨71,⟨[.val 44],[]⟩,[],⟨[.bool],[]⟩,0,F⟩
def dR(F:List zf->Option Int):Con I:=⟨35,⟨[.sl 44],[]⟩,[],⟨[.int .i64],[]⟩,0,F⟩
def Q8(F:List zb->Option Bool):Con I:=⟨131,⟨[.sl 49],[]⟩,[],⟨[.bool],[]⟩,0,F⟩
def BS(F:Str->Option Bool):Con I:=⟨132,⟨[.str],[]⟩,[],⟨[.bool],[]⟩,0,F⟩
def yR(F:Str×List zb->Option Bool):Con I:=⟨95,⟨[.str, .sl 49],[]⟩,[],⟨[.bool],[]⟩,0,F⟩
def VR(F:Za->Option Int):Con I:=⟨53,⟨[.val 66],[]⟩,[],⟨[.int .i64],[]⟩,0,F⟩
def iJ(F:List zb->Option (Za×Bool)):Con I:=⟨74,⟨[.sl 49],[]⟩,[],⟨[.val 66, .bool],[]⟩,0,F⟩
def EQ(F:List zb->Option (Za×Bool×Int)):Con I:=⟨38,⟨[.sl 49],[]⟩,[],⟨[.val 66, .bool, .int .i64],[]⟩,0,F⟩
def rQ(F:List zb×Int->Option (List (List zb)×Int)):Con I:=⟨28,⟨[.sl 49, .int .u8],[]⟩,[],⟨[.sl 23, .int .i64],[]⟩,0,F⟩
def nH(F:List zb->Option (List Za×Int)):Con I:=⟨39,⟨[.sl 49],[]⟩,[],⟨[.sl 66, .int .i64],[]⟩,0,F⟩
def WR(F:List zb×Int->Option (List (List zb))):Con I:=⟨112,⟨[.sl 49, .int .u8],[]⟩,[],⟨[.sl 23],[]⟩,0,F⟩
def vI(F:List zb->Option (List Za)):Con I:=⟨75,⟨[.sl 49],[]⟩,[],⟨[.sl 66],[]⟩,0,F⟩
def jP(F:List zb->Option (List Za×Int)):Con I:=⟨40,⟨[.sl 49],[]⟩,[],⟨[.sl 66, .int .i64],[]⟩,0,F⟩
def uT(F:za->Option za):Con I:=⟨100,⟨[.optr 0],[(0, .row 133)]⟩,[],⟨[],[(0, .row 133)]⟩,0,F⟩
def zy(F:Int×za->Option Int):Con I:=⟨137,⟨[.optr 0, .int .i64],[(0, .row 133)]⟩,[0],⟨[.int .i64],[]⟩,0,F⟩
def Iu(F:Int->Option Bool):Con I:=⟨138,⟨[.int .i64],[]⟩,[],⟨[.bool],[]⟩,0,F⟩
def Qd(F:za->Option za):Con I:=⟨139,⟨[.optr 0, .clo 138 []],[(0, .row 133)]⟩,[],⟨[],[(0, .row 133)]⟩,0,F⟩
def BU(F:Int->Option (List UInt8)):Con I:=⟨237,⟨[.nilv, .int .i32],[]⟩,[],⟨[.own 0],[(0, .sl 5)]⟩,1,F⟩
def OT(F:Int->Option (List UInt8)):Con I:=⟨210,⟨[.nilv, .int .i32],[]⟩,[],⟨[.own 0],[(0, .sl 5)]⟩,1,F⟩
def Rz(F:Int×Int×Int->Option Bool):Con I:=⟨212,⟨[.int .i64, .int .i64, .int .i64],[]⟩,[],⟨[.bool],[]⟩,0,F⟩
def Ju(F:Int->Option Bool):Con I:=⟨174,⟨[.int .i64],[]⟩,[],⟨[.bool],[]⟩,0,F⟩
def sI(F:Int->Option Int):Con I:=⟨211,⟨[.int .i64],[]⟩,[],⟨[.int .i64],[]⟩,0,F⟩
def CU(F:za->Option (za×List UInt8)):Con I:=⟨172,⟨[.optr 0, .nilv],[(0, .row 133)]⟩,[],⟨[.own 1],[(0, .row 133),(1, .sl 5)]⟩,1,F⟩
def AU(F:Int×List UInt8->Option (List UInt8)):Con I:=⟨237,⟨[.own 0, .int .i32],[(0, .sl 5)]⟩,[],⟨[.own 1],[(1, .sl 5)]⟩,1,F⟩
def NT(F:Int×List UInt8->Option (List UInt8)):Con I:=⟨210,⟨[.own 0, .int .i32],[(0, .sl 5)]⟩,[],⟨[.own 1],[(1, .sl 5)]⟩,1,F⟩
def qc(F:za×List UInt8->Option (za×List UInt8)):Con I:=⟨172,⟨[.optr 0, .own 1],[(0, .row 133),(1, .sl 5)]⟩,[],⟨[.own 2],[(0, .row 133),(2, .sl 5)]⟩,1,F⟩
def wT(F:za->Option (zf×za)):Con I:=⟨140,⟨[.optr 0],[(0, .row 133)]⟩,[],⟨[.val 44],[(0, .row 133)]⟩,0,F⟩
def fJ(F:Int->Option Bool):Con I:=⟨173,⟨[.int .i64],[]⟩,[],⟨[.bool],[]⟩,0,F⟩
def pJ(F:Int->Option Bool):Con I:=⟨141,⟨[.int .i64],[]⟩,[],⟨[.bool],[]⟩,0,F⟩
def ZE(F:Int×za->Option Bool):Con I:=⟨142,⟨[.optr 0, .int .i64],[(0, .row 133)]⟩,[0],⟨[.bool],[]⟩,0,F⟩
def yJ(F:Int×za->Option Bool):Con I:=⟨143,⟨[.optr 0, .int .i64],[(0, .row 133)]⟩,[0],⟨[.bool],[]⟩,0,F⟩
def Qw(F:za->Option (Str×za)):Con I:=⟨144,⟨[.optr 0],[(0, .row 133)]⟩,[],⟨[.str],[(0, .row 133)]⟩,0,F⟩
def yT(F:za->Option Bool):Con I:=⟨145,⟨[.optr 0],[(0, .row 133)]⟩,[0],⟨[.bool],[]⟩,0,F⟩
def lT(F:za->Option za):Con I:=⟨139,⟨[.optr 0, .clo 174 []],[(0, .row 133)]⟩,[],⟨[],[(0, .row 133)]⟩,0,F⟩
def rT(F:za->Option (Bool×za)):Con I:=⟨175,⟨[.optr 0],[(0, .row 133)]⟩,[],⟨[.bool],[(0, .row 133)]⟩,0,F⟩
def PT(F:Str->Option Int):Con I:=⟨176,⟨[.str],[]⟩,[],⟨[.int .i64],[]⟩,0,F⟩
def nT(F:za->Option (zf×za)):Con I:=⟨146,⟨[.optr 0],[(0, .row 133)]⟩,[],⟨[.val 44],[(0, .row 133)]⟩,0,F⟩
def WT(F:za->Option (zf×za)):Con I:=⟨216,⟨[.optr 0],[(0, .row 133)]⟩,[],⟨[.val 44],[(0, .row 133)]⟩,0,F⟩
def UT(F:za->Option (zf×za)):Con I:=⟨177,⟨[.optr 0],[(0, .row 133)]⟩,[],⟨[.val 44],[(0, .row 133)]⟩,0,F⟩
def gT(F:za->Option (zf×za)):Con I:=⟨147,⟨[.optr 0],[(0, .row 133)]⟩,[],⟨[.val 44],[(0, .row 133)]⟩,0,F⟩
def iT(F:za->Option (zf×za)):Con I:=⟨101,⟨[.optr 0],[(0, .row 133)]⟩,[],⟨[.val 44],[(0, .row 133)]⟩,0,F⟩
def bT(F:(zf×Int×Int)×List zf->Option (List zf)):Con I:=⟨70,⟨[.val 44, .int .i64, .int .i64, .optr 0],[(0, .cells 22 [.own 1]),(1, .sl 44)]⟩,[],⟨[],[(0, .cells 22 [.own 2]),(2, .sl 44)]⟩,1,F⟩
def vR(F:Str->Option (Int×List zf)):Con I:=⟨69,⟨[.str, .clo 70 [0]],[(0, .cells 22 [.nilv])]⟩,[],⟨[.int .i64],[(0, .cells 22 [.own 1]),(1, .sl 44)]⟩,1,F⟩
def wR(F:Str->Option (List zf×Int)):Con I:=⟨33,⟨[.str],[]⟩,[],⟨[.sl 44, .int .i64],[]⟩,0,F⟩
def YQ(F:Str->Option (List Za×Int)):Con I:=⟨41,⟨[.str],[]⟩,[],⟨[.sl 66, .int .i64],[]⟩,0,F⟩
def sS(F:Str->Option Str):Con I:=⟨151,⟨[.str],[]⟩,[],⟨[.str],[]⟩,0,F⟩
def iR(F:Str->Option (Str×Int)):Con I:=⟨113,⟨[.str],[]⟩,[],⟨[.str, .int .i64],[]⟩,0,F⟩
def pQ(F:Str×Int->Option Int):Con I:=⟨152,⟨[.str, .int .i64],[]⟩,[],⟨[.int .i64],[]⟩,0,F⟩
def JQ(F:Str->Option (List zf×List Zh)):Con I:=⟨114,⟨[.str],[]⟩,[],⟨[.sl 44, .sl 172],[]⟩,0,F⟩
def MS(F:Str->Option (List zf×Int)):Con I:=⟨76,⟨[.str],[]⟩,[],⟨[.sl 44, .int .i64],[]⟩,0,F⟩
def Sz(F:List zf×Int×Int×Int->Option (List zb×Int)):Con I:=⟨96,⟨[.sl 44, .int .i64, .int .u8, .int .i64],[]⟩,[],⟨[.sl 49, .int .i64],[]⟩,0,F⟩
def CS(F:List zf->Option (List zb×Bool)):Con I:=⟨62,⟨[.sl 44],[]⟩,[],⟨[.sl 49, .bool],[]⟩,0,F⟩
def XR(F:List zf->Option (List zb×Int)):Con I:=⟨17,⟨[.sl 44],[]⟩,[],⟨[.sl 49, .int .i64],[]⟩,0,F⟩
def jQ(F:Str->Option (List Za×Int)):Con I:=⟨42,⟨[.str],[]⟩,[],⟨[.sl 66, .int .i64],[]⟩,0,F⟩
def uy(F:List zb×List zb->Option Bool):Con I:=⟨22,⟨[.sl 49, .sl 49],[]⟩,[],⟨[.bool],[]⟩,0,F⟩
def gJ(F:Za×Za->Option Bool):Con I:=⟨43,⟨[.val 66, .val 66],[]⟩,[],⟨[.bool],[]⟩,0,F⟩
def iQ(F:List Za×List Za->Option Bool):Con I:=⟨44,⟨[.sl 66, .sl 66],[]⟩,[],⟨[.bool],[]⟩,0,F⟩
def KT(F:List zb×Str->Option Bool):Con I:=⟨8,⟨[.sl 49, .str],[]⟩,[],⟨[.bool],[]⟩,0,F⟩
def oM(F:Str->Option (Str×Int)):Con I:=⟨99,⟨[.str],[]⟩,[],⟨[.str, .int .i64],[]⟩,0,F⟩
theorem TY:zl Tryz.prog (oM il):=BZ
def UO(F:Str×Int->Option Int):Con I:=⟨156,⟨[.str, .int .u8],[]⟩,[],⟨[.int .i64],[]⟩,0,F⟩
theorem TZ:zl Tryz.prog (UO Iw):=eZ
def mG(F:Str×Str->Option Int):Con I:=⟨136,⟨[.str, .str],[]⟩,[],⟨[.int .i64],[]⟩,0,F⟩
theorem nN:zl Tryz.prog (mG Ul):=AZ
def mM(F:Str×Str->Option Str):Con I:=⟨213,⟨[.str, .str],[]⟩,[],⟨[.str],[]⟩,0,F⟩
theorem RY:zl Tryz.prog (mM Wl):=RZ
def MQ(F:Str×Str->Option Int):Con I:=⟨214,⟨[.str, .str],[]⟩,[],⟨[.int .i64],[]⟩,0,F⟩
theorem C8:zl Tryz.prog (MQ yl):=M7
def FV(F:Str×Str->Option (Str×Str×Bool)):Con I:=⟨215,⟨[.str, .str],[]⟩,[],⟨[.str, .str, .bool],[]⟩,0,F⟩
theorem zBr:zl Tryz.prog (FV cutF):=zA9
def nM(F:List zf->Option (List zb×Int)):Con I:=⟨16,⟨[.sl 44],[]⟩,[],⟨[.sl 49, .int .i64],[]⟩,0,F⟩
theorem SY:zl Tryz.prog (nM parseF):=yY
theorem N8(Qb:List zb×Int->Option Int)(hs:zl Tryz.prog (ry Qb)):zl Tryz.prog (ry (Cu Qb)):=
 okC (A:=⟨[ry Qb],[],[],0,[(3,⟨[5,6],⟨[.int .i64, .int .i64],[]⟩,[0,1,4],[],[],0,[5],⟨[.int .i64],[]⟩,[]⟩)],[],[]⟩) (exS:=⟨[.int .i64],[]⟩) Tryz.f58 (memC hs zB) (by kernel_rfl) (by kernel_rfl) fun x=>by kernel_rfl
theorem L9:zl Tryz.prog (ry Qb):=
 zl.recE (I:=I) (P:=Tryz.prog) (f:=58) (inS:=⟨[.sl 49, .int .i64],[]⟩) (cst:=[]) (outS:=⟨[.int .i64],[]⟩) (k:=0) (Cu) (by kernel_rfl) (fun S h=>N8 S h)
theorem XE:zl Tryz.prog (Uz qi):=
 okC (A:=⟨[],[],[],0,[],[(6,⟨[6],⟨[.bool],[]⟩,[3],[],[],0,[],⟨[],[]⟩,[]⟩)],[]⟩) (exS:=⟨[.int .u8],[]⟩) Tryz.f25 zB (by kernel_rfl) (by kernel_rfl) fun x=>by kernel_rfl
theorem P8(Qa:List zb->Option Int)(hs:zl Tryz.prog (Lu Qa)):zl Tryz.prog (Lu (iD Qa)):=
 okC (A:=⟨[Uz qi,Lu Qa],[],[],0,[(3,⟨[3,4],⟨[.int .i64, .int .i64],[]⟩,[0,2],[],[],0,[3],⟨[.int .i64],[]⟩,[]⟩)],[(4,⟨[3,4],⟨[.int .i64, .int .i64],[]⟩,[],[],[],0,[],⟨[],[]⟩,[]⟩)],[]⟩) (exS:=⟨[.int .i64],[]⟩) Tryz.f59 (memC XE (memC hs zB)) (by kernel_rfl) (by kernel_rfl) fun x=>by kernel_rfl
theorem IR:zl Tryz.prog (Lu Qa):=
 zl.recE (I:=I) (P:=Tryz.prog) (f:=59) (inS:=⟨[.sl 49],[]⟩) (cst:=[]) (outS:=⟨[.int .i64],[]⟩) (k:=0) (iD) (by kernel_rfl) (fun S h=>P8 S h)
theorem znM:zl Tryz.prog (YR ay):=
 okC (A:=⟨[ry Qb,Lu Qa],[],[],0,[],[],[]⟩) (exS:=⟨[.bool],[]⟩) Tryz.f15 (memC L9 (memC IR zB)) (by kernel_rfl) (by kernel_rfl) fun x=>by kernel_rfl
theorem Oz:zl Tryz.prog (Ku qw):=
 okC (A:=⟨[],[],[],0,[],[(7,⟨[6],⟨[.bool],[]⟩,[0],[],[],0,[],⟨[],[]⟩,[]⟩)],[]⟩) (exS:=⟨[.int .u8],[]⟩) Tryz.f61 zB (by kernel_rfl) (by kernel_rfl) fun x=>by kernel_rfl
theorem H6(Kl:List zb×Int->Option zK)(hs:zl Tryz.prog (Ty Kl)):zl Tryz.prog (Ty (eD Kl)):=
 okC (A:=⟨[Ku qw,Ty Kl],[],[],0,[(3,⟨[12],⟨[.int .i64],[(1, .row 101)]⟩,[1,4,5,10,11],[0],[1],0,[],⟨[],[(1, .row 101)]⟩,[1]⟩)],[(9,⟨[],⟨[],[(1, .row 101)]⟩,[7,8,12],[2],[1],0,[],⟨[],[]⟩,[]⟩),(12,⟨[12],⟨[.int .i64],[(1, .row 101)]⟩,[],[],[1],0,[],⟨[],[]⟩,[]⟩)],[]⟩) (exS:=⟨[.optr 0],[(0, .row 101)]⟩) Tryz.f65 (memC Oz (memC hs zB)) (by kernel_rfl) (by kernel_rfl) fun x=>by kernel_rfl
theorem l7:zl Tryz.prog (Ty Kl):=
 zl.recE (I:=I) (P:=Tryz.prog) (f:=65) (inS:=⟨[.sl 49, .int .u8],[]⟩) (cst:=[]) (outS:=⟨[.val 101],[]⟩) (k:=0) (eD) (by kernel_rfl) (fun S h=>H6 S h)
theorem NE:zl Tryz.prog (wy QB):=
 okC (A:=⟨[Ty Kl],[],[],0,[],[],[]⟩) (exS:=⟨[.int .i64],[]⟩) Tryz.f32 (memC l7 zB) (by kernel_rfl) (by kernel_rfl) fun x=>by kernel_rfl
theorem Gq:zl Tryz.prog (Bn ZG):=
 okC (A:=⟨[],[],[],0,[],[],[]⟩) (exS:=⟨[.bool],[]⟩) Tryz.f91 zB (by kernel_rfl) (by kernel_rfl) fun x=>by kernel_rfl
theorem E8:zl Tryz.prog (XQ Tp):=
 okC (A:=⟨[Bn ZG],[],[],0,[(1,⟨[0],⟨[.sl 49],[]⟩,[2],[],[],0,[0],⟨[.sl 49],[]⟩,[]⟩)],[],[]⟩) (exS:=⟨[.sl 49],[]⟩) Tryz.f107 (memC Gq zB) (by kernel_rfl) (by kernel_rfl) fun x=>by kernel_rfl
theorem Y9:zl Tryz.prog (vQ Em):=
 okC (A:=⟨[Bn ZG],[],[],0,[(1,⟨[0],⟨[.sl 49],[]⟩,[2],[],[],0,[0],⟨[.sl 49],[]⟩,[]⟩)],[],[]⟩) (exS:=⟨[.sl 49],[]⟩) Tryz.f106 (memC Gq zB) (by kernel_rfl) (by kernel_rfl) fun x=>by kernel_rfl
theorem tT:zl Tryz.prog (QN stringslite_HasPrefix):=
 okC (A:=⟨[],[],[],0,[],[],[]⟩) (exS:=⟨[.bool],[]⟩) Tryz.f130 zB (by kernel_rfl) (by kernel_rfl) fun x=>by kernel_rfl
theorem ZX:zl Tryz.prog (ZI strings_HasPrefix):=
 okC (A:=⟨[QN stringslite_HasPrefix],[],[],0,[],[],[]⟩) (exS:=⟨[.bool],[]⟩) Tryz.f93 (memC tT zB) (by kernel_rfl) (by kernel_rfl) fun x=>by kernel_rfl
theorem bJ:zl Tryz.prog (FE qM):=
 okC (A:=⟨[],[],[],0,[(3,⟨[10],⟨[.int .i64],[(0, .sl 5)]⟩,[2,3,8,9],[],[0],0,[],⟨[],[(0, .sl 5)]⟩,[0]⟩)],[(7,⟨[10],⟨[.int .i64],[(0, .sl 5)]⟩,[],[],[0],0,[],⟨[],[]⟩,[]⟩)],[]⟩) (exS:=⟨[.str],[]⟩) Tryz.f108 zB (by kernel_rfl) (by kernel_rfl) fun x=>by kernel_rfl
theorem dJ:zl Tryz.prog (IE Qn):=
 okC (A:=⟨[FE qM],[],[],0,[],[],[]⟩) (exS:=⟨[.bool],[]⟩) Tryz.f109 (memC bJ zB) (by kernel_rfl) (by kernel_rfl) fun x=>by kernel_rfl
theorem GR:zl Tryz.prog (yI Am):=
 okC (A:=⟨[Bn ZG],[],[],0,[],[],[]⟩) (exS:=⟨[.bool],[]⟩) Tryz.f92 (memC Gq zB) (by kernel_rfl) (by kernel_rfl) fun x=>by kernel_rfl
theorem znF:zl Tryz.prog (kR Gu):=
 okC (A:=⟨[],[],[],1,[],[],[]⟩) (exS:=⟨[.bool],[]⟩) Tryz.f68 zB (by kernel_rfl) (by kernel_rfl) fun x=>by kernel_rfl
theorem zfS:zl Tryz.prog (kT Qj):=
 okC (A:=⟨[],[],[],0,[],[],[]⟩) (exS:=⟨[.own 0],[(0, .sl 49)]⟩) Tryz.f98 zB (by kernel_rfl) (by kernel_rfl) fun x=>by kernel_rfl
theorem G6(QC:List zb->Option (List zb))(hs:zl Tryz.prog (Eu QC)):zl Tryz.prog (Eu (aD QC)):=
 okC (A:=⟨[kT Qj,Eu QC],[],[],0,[(3,⟨[8],⟨[.int .i64],[(0, .sl 49)]⟩,[0,2,7],[],[0],0,[],⟨[],[(0, .sl 49)]⟩,[0]⟩)],[],[]⟩) (exS:=⟨[.sl 49],[]⟩) Tryz.f67 (memC zfS (memC hs zB)) (by kernel_rfl) (by kernel_rfl) fun x=>by kernel_rfl
theorem FR:zl Tryz.prog (Eu QC):=
 zl.recE (I:=I) (P:=Tryz.prog) (f:=67) (inS:=⟨[.sl 49],[]⟩) (cst:=[]) (outS:=⟨[.sl 49],[]⟩) (k:=0) (aD) (by kernel_rfl) (fun S h=>G6 S h)
theorem u7:zl Tryz.prog (KQ Ex):=
 okC (A:=⟨[wy QB,kR Gu,Eu QC],[],[],0,[(6,⟨[6],⟨[.int .i64],[]⟩,[1,2,3,5,7],[0],[],0,[6],⟨[.int .i64],[]⟩,[]⟩),(8,⟨[7],⟨[.int .i64],[]⟩,[1,2,3,5,6],[0],[],2,[7],⟨[.int .i64],[]⟩,[]⟩)],[],[]⟩) (exS:=⟨[.sl 49, .int .i64],[]⟩) Tryz.f29 (memC NE (memC znF (memC FR zB))) (by kernel_rfl) (by kernel_rfl) fun x=>by kernel_rfl
theorem znW(Qo:List zb×List zf->Option (List zf))(hs:zl Tryz.prog (Gz Qo)):zl Tryz.prog (Gz (OE Qo)):=
 okC (A:=⟨[Ku qw,Gz Qo],[(4,[3]),(7,[6])],[],1,[(2,⟨[0,10],⟨[.own 1001, .int .i64],[(1001, .sl 44)]⟩,[4,8,9],[],[],0,[0],⟨[.own 1001],[(1001, .sl 44)]⟩,[1001]⟩)],[(8,⟨[0,10],⟨[.own 1103, .int .i64],[(1103, .sl 44)]⟩,[],[],[],0,[],⟨[],[]⟩,[]⟩)],[]⟩) (exS:=⟨[.own 1],[(1, .sl 44)]⟩) Tryz.f63 (memC Oz (memC hs zB)) (by kernel_rfl) (by kernel_rfl) fun x=>by kernel_rfl
theorem znH:zl Tryz.prog (Gz Qo):=
 zl.recE (I:=I) (P:=Tryz.prog) (f:=63) (inS:=⟨[.own 0, .sl 49],[(0, .sl 44)]⟩) (cst:=[]) (outS:=⟨[.own 1],[(1, .sl 44)]⟩) (k:=1) (OE) (by kernel_rfl) (fun S h=>znW S h)
theorem znG:zl Tryz.prog (jR Ry):=
 okC (A:=⟨[Ku qw,Gz Qo],[(4,[3]),(7,[6])],[],0,[(2,⟨[0,10],⟨[.own 1105, .int .i64],[(1105, .sl 44)]⟩,[4,8,9],[],[],0,[0],⟨[.own 1105],[(1105, .sl 44)]⟩,[1105]⟩)],[(8,⟨[0,10],⟨[.own 1207, .int .i64],[(1207, .sl 44)]⟩,[],[],[],0,[],⟨[],[]⟩,[]⟩)],[]⟩) (exS:=⟨[.own 0],[(0, .sl 44)]⟩) Tryz.f63 (memC Oz (memC znH zB)) (by kernel_rfl) (by kernel_rfl) fun x=>by kernel_rfl
theorem A8:zl Tryz.prog (LQ Fx):=
 okC (A:=⟨[wy QB,jR Ry],[],[],0,[],[],[]⟩) (exS:=⟨[.sl 44, .int .i64],[]⟩) Tryz.f18 (memC NE (memC znG zB)) (by kernel_rfl) (by kernel_rfl) fun x=>by kernel_rfl
theorem xJ:zl Tryz.prog (QM strings_IndexByte):=
 okC (A:=⟨[UO Iw],[],[],0,[],[],[]⟩) (exS:=⟨[.int .i64],[]⟩) Tryz.f119 (memC TZ zB) (by kernel_rfl) (by kernel_rfl) fun x=>by kernel_rfl
theorem d9:zl Tryz.prog (wQ Cy):=
 okC (A:=⟨[QM strings_IndexByte,ZI strings_HasPrefix,FE qM],[],[],0,[],[],[]⟩) (exS:=⟨[.bool],[]⟩) Tryz.f87 (memC xJ (memC ZX (memC bJ zB))) (by kernel_rfl) (by kernel_rfl) fun x=>by kernel_rfl
theorem zei:zl Tryz.prog (vT stringslite_TrimPrefix):=
 okC (A:=⟨[QN stringslite_HasPrefix],[],[],0,[],[],[]⟩) (exS:=⟨[.str],[]⟩) Tryz.f197 (memC tT zB) (by kernel_rfl) (by kernel_rfl) fun x=>by kernel_rfl
theorem zfT:zl Tryz.prog (jT strings_TrimPrefix):=
 okC (A:=⟨[vT stringslite_TrimPrefix],[],[],0,[],[],[]⟩) (exS:=⟨[.str],[]⟩) Tryz.f162 (memC zei zB) (by kernel_rfl) (by kernel_rfl) fun x=>by kernel_rfl
theorem KR:zl Tryz.prog (KJ Jn):=
 okC (A:=⟨[],[],[],0,[],[],[]⟩) (exS:=⟨[.bool],[]⟩) Tryz.f155 zB (by kernel_rfl) (by kernel_rfl) fun x=>by kernel_rfl
theorem zmn:zl Tryz.prog (RS ky):=
 okC (A:=⟨[jT strings_TrimPrefix,KJ Jn],[],[],0,[],[],[]⟩) (exS:=⟨[.bool],[]⟩) Tryz.f122 (memC zfT (memC KR zB)) (by kernel_rfl) (by kernel_rfl) fun x=>by kernel_rfl
theorem znE:zl Tryz.prog (mR mI):=
 okC (A:=⟨[],[],[],0,[],[],[]⟩) (exS:=⟨[.bool],[]⟩) Tryz.f157 zB (by kernel_rfl) (by kernel_rfl) fun x=>by kernel_rfl
theorem W9:zl Tryz.prog (tQ yx):=
 okC (A:=⟨[mR mI,KJ Jn],[],[],0,[],[],[]⟩) (exS:=⟨[.bool],[]⟩) Tryz.f153 (memC znE (memC KR zB)) (by kernel_rfl) (by kernel_rfl) fun x=>by kernel_rfl
theorem zhu:zl Tryz.prog (eT strings_Contains):=
 okC (A:=⟨[mG Ul],[],[],0,[],[],[]⟩) (exS:=⟨[.bool],[]⟩) Tryz.f154 (memC nN zB) (by kernel_rfl) (by kernel_rfl) fun x=>by kernel_rfl
theorem D8:zl Tryz.prog (NQ Mx):=
 okC (A:=⟨[QM strings_IndexByte,RS ky,ZI strings_HasPrefix,tQ yx,eT strings_Contains],[],[],0,[],[(8,⟨[3,4,5,6,7,25],⟨[.bool, .bool, .bool, .bool, .bool, .bool],[]⟩,[1,16],[],[],0,[],⟨[],[]⟩,[]⟩),(14,⟨[3,4,5,6,7,63],⟨[.bool, .bool, .bool, .bool, .bool, .bool],[]⟩,[],[],[],0,[],⟨[],[]⟩,[]⟩),(22,⟨[4,5,6,7,94],⟨[.bool, .bool, .bool, .bool, .bool],[]⟩,[3],[],[],0,[],⟨[],[]⟩,[]⟩),(24,⟨[3,4,5,6,7],⟨[.bool, .bool, .bool, .bool, .bool],[]⟩,[1],[0],[],0,[],⟨[],[]⟩,[]⟩)],[]⟩) (exS:=⟨[.bool],[]⟩) Tryz.f115 (memC xJ (memC zmn (memC ZX (memC W9 (memC zhu zB))))) (by kernel_rfl) (by kernel_rfl) fun x=>by kernel_rfl
theorem zmo:zl Tryz.prog (NS Qf):=
 okC (A:=⟨[],[],[],1,[],[],[]⟩) (exS:=⟨[.bool],[]⟩) Tryz.f116 zB (by kernel_rfl) (by kernel_rfl) fun x=>by kernel_rfl
theorem V9:zl Tryz.prog (sQ dx):=
 okC (A:=⟨[NS Qf,IE Qn],[],[],0,[],[(11,⟨[5],⟨[.int .i64],[]⟩,[3],[0],[],0,[],⟨[],[]⟩,[]⟩)],[]⟩) (exS:=⟨[.int .i64],[]⟩) Tryz.f80 (memC zmo (memC dJ zB)) (by kernel_rfl) (by kernel_rfl) fun x=>by kernel_rfl
theorem X9:zl Tryz.prog (uQ yt):=
 okC (A:=⟨[NQ Mx,sQ dx],[],[],0,[(4,⟨[10],⟨[.int .i64],[]⟩,[0,8,9],[],[],0,[],⟨[],[]⟩,[]⟩)],[],[]⟩) (exS:=⟨[.int .i64],[]⟩) Tryz.f79 (memC D8 (memC V9 zB)) (by kernel_rfl) (by kernel_rfl) fun x=>by kernel_rfl
theorem zjk(zz:List zb->Option Bool)(h_decl_closers:zl Tryz.prog (qG zz)):zl Tryz.prog (vS (QZ zz)):=
 okC (A:=⟨[Bn ZG,qG zz],[],[],0,[],[],[]⟩) (exS:=⟨[.bool],[]⟩) Tryz.f128 (memC Gq (memC h_decl_closers zB)) (by kernel_rfl) (by kernel_rfl) fun x=>by kernel_rfl
theorem zeh(zz:List zb->Option Bool)(h_decl_closers:zl Tryz.prog (qG zz)):zl Tryz.prog (EU (qV zz)):=
 okC (A:=⟨[vS (QZ zz)],[],[],0,[(2,⟨[8],⟨[.int .i64],[]⟩,[0,1,7],[],[],0,[],⟨[],[]⟩,[]⟩)],[],[]⟩) (exS:=⟨[.int .i64],[]⟩) Tryz.f129 (memC (zjk zz h_decl_closers) zB) (by kernel_rfl) (by kernel_rfl) fun x=>by kernel_rfl
theorem zc2(zz:List zb->Option Bool)(h_decl_closers:zl Tryz.prog (qG zz)):zl Tryz.prog (Q9 (qf zz)):=
 okC (A:=⟨[EU (qV zz)],[],[],0,[],[],[]⟩) (exS:=⟨[.bool],[]⟩) Tryz.f89 (memC (zeh zz h_decl_closers) zB) (by kernel_rfl) (by kernel_rfl) fun x=>by kernel_rfl
theorem zmY(zz:List zb->Option Bool)(hs:zl Tryz.prog (qG zz)):zl Tryz.prog (qG (uD zz)):=
 okC (A:=⟨[Q9 (qf zz)],[],[],0,[],[],[]⟩) (exS:=⟨[.bool],[]⟩) Tryz.f88 (memC (zc2 zz hs) zB) (by kernel_rfl) (by kernel_rfl) fun x=>by kernel_rfl
theorem zml:zl Tryz.prog (qG zz):=
 zl.recE (I:=I) (P:=Tryz.prog) (f:=88) (inS:=⟨[.sl 49],[]⟩) (cst:=[]) (outS:=⟨[.bool],[]⟩) (k:=0) (uD) (by kernel_rfl) (fun S h=>zmY S h)
theorem zmk:zl Tryz.prog (SS ny):=
 okC (A:=⟨[Bn ZG,yI Am],[],[],0,[],[],[]⟩) (exS:=⟨[.bool],[]⟩) Tryz.f90 (memC Gq (memC GR zB)) (by kernel_rfl) (by kernel_rfl) fun x=>by kernel_rfl
theorem zdz:zl Tryz.prog (DU qm):=
 okC (A:=⟨[SS ny],[],[],0,[(2,⟨[8],⟨[.int .i64],[]⟩,[0,1,7],[],[],0,[],⟨[],[]⟩,[]⟩)],[],[]⟩) (exS:=⟨[.int .i64],[]⟩) Tryz.f129 (memC zmk zB) (by kernel_rfl) (by kernel_rfl) fun x=>by kernel_rfl
theorem zcw:zl Tryz.prog (QS Zu):=
 okC (A:=⟨[DU qm],[],[],0,[],[],[]⟩) (exS:=⟨[.bool],[]⟩) Tryz.f89 (memC zdz zB) (by kernel_rfl) (by kernel_rfl) fun x=>by kernel_rfl
theorem l9:zl Tryz.prog (xQ Dy):=
 okC (A:=⟨[LQ Fx,wQ Cy,uQ yt,qG zz,QS Zu,ZI strings_HasPrefix,Bn ZG],[],[],0,[],[],[]⟩) (exS:=⟨[.int .i64],[]⟩) Tryz.f52 (memC A8 (memC d9 (memC X9 (memC zml (memC zcw (memC ZX (memC Gq zB))))))) (by kernel_rfl) (by kernel_rfl) fun x=>by kernel_rfl
theorem mP:zl Tryz.prog (VI Ep):=
 okC (A:=⟨[XQ Tp,vQ Em,Bn ZG,ZI strings_HasPrefix,FE qM,IE Qn,yI Am,KQ Ex,xQ Dy],[],[],0,[],[(7,⟨[0],⟨[.sl 49],[(0, .cells 66 [.str, .nilv, .bool]),(1, .cells 66 [.str, .nilv, .bool])]⟩,[2,4],[],[0,1],0,[],⟨[],[]⟩,[]⟩),(16,⟨[0],⟨[.sl 49],[(0, .cells 66 [.str, .nilv, .bool]),(1, .cells 66 [.str, .nilv, .bool])]⟩,[],[],[0,1],0,[],⟨[],[]⟩,[]⟩)],[]⟩) (exS:=⟨[.optr 0, .bool],[(0, .row 66)]⟩) Tryz.f73 (memC E8 (memC Y9 (memC Gq (memC ZX (memC bJ (memC dJ (memC GR (memC u7 (memC l9 zB))))))))) (by kernel_rfl) (by kernel_rfl) fun x=>by kernel_rfl
theorem J5:zl Tryz.prog (XP ow):=
 okC (A:=⟨[wy QB,VI Ep],[],[],0,[],[],[]⟩) (exS:=⟨[.optr 0, .bool, .int .i64],[(0, .row 66)]⟩) Tryz.f37 (memC NE (memC mP zB)) (by kernel_rfl) (by kernel_rfl) fun x=>by kernel_rfl
theorem zmZ(ZB:List zb->Option (List zf))(hs:zl Tryz.prog (Qm ZB)):zl Tryz.prog (Qm (nD ZB)):=
 okC (A:=⟨[Uz qi,Qm ZB],[(5,[6]),(9,[3])],[],0,[(3,⟨[3,4],⟨[.own 1208, .int .i64],[(1208, .sl 44)]⟩,[0,2],[],[],0,[3],⟨[.own 1208],[(1208, .sl 44)]⟩,[1208]⟩)],[(4,⟨[3,4],⟨[.own 1310, .int .i64],[(1310, .sl 44)]⟩,[],[],[],0,[],⟨[],[]⟩,[]⟩)],[]⟩) (exS:=⟨[.sl 44],[]⟩) Tryz.f36 (memC XE (memC hs zB)) (by kernel_rfl) (by kernel_rfl) fun x=>by kernel_rfl
theorem kJ:zl Tryz.prog (Qm ZB):=
 zl.recE (I:=I) (P:=Tryz.prog) (f:=36) (inS:=⟨[.sl 49],[]⟩) (cst:=[]) (outS:=⟨[.sl 44],[]⟩) (k:=0) (nD) (by kernel_rfl) (fun S h=>zmZ S h)
theorem zm0(qI:List zb×Int->Option Bool)(hs:zl Tryz.prog (Tz qI)):zl Tryz.prog (Tz (mD qI)):=
 okC (A:=⟨[Uz qi,Tz qI],[],[],0,[(2,⟨[5],⟨[.int .i64],[]⟩,[0,1],[],[],0,[],⟨[],[]⟩,[]⟩)],[],[]⟩) (exS:=⟨[.bool],[]⟩) Tryz.f66 (memC XE (memC hs zB)) (by kernel_rfl) (by kernel_rfl) fun x=>by kernel_rfl
theorem zmt:zl Tryz.prog (Tz qI):=
 zl.recE (I:=I) (P:=Tryz.prog) (f:=66) (inS:=⟨[.sl 49, .int .u8],[]⟩) (cst:=[]) (outS:=⟨[.bool],[]⟩) (k:=0) (mD) (by kernel_rfl) (fun S h=>zm0 S h)
theorem VJ:zl Tryz.prog (wD QP):=
 okC (A:=⟨[Lu Qa,Qm ZB,Tz qI],[],[],0,[],[],[]⟩) (exS:=⟨[.int .i64],[]⟩) Tryz.f27 (memC IR (memC kJ (memC zmt zB))) (by kernel_rfl) (by kernel_rfl) fun x=>by kernel_rfl
theorem uJ:zl Tryz.prog (UE ZH):=
 okC (A:=⟨[],[],[],0,[(1,⟨[0],⟨[.sl 49],[]⟩,[2],[],[],0,[0],⟨[.sl 49],[]⟩,[]⟩),(3,⟨[0],⟨[.sl 49],[]⟩,[2],[],[],2,[0],⟨[.sl 49],[]⟩,[]⟩)],[],[]⟩) (exS:=⟨[.sl 49],[]⟩) Tryz.f110 zB (by kernel_rfl) (by kernel_rfl) fun x=>by kernel_rfl
theorem XJ:zl Tryz.prog (yD Qu):=
 okC (A:=⟨[],[],[],0,[],[],[]⟩) (exS:=⟨[.int .u8],[]⟩) Tryz.f150 zB (by kernel_rfl) (by kernel_rfl) fun x=>by kernel_rfl
theorem YJ:zl Tryz.prog (CE ZR):=
 okC (A:=⟨[yD Qu],[],[],0,[(3,⟨[4],⟨[.int .i64],[(0, .sl 5)]⟩,[2,3],[],[0],0,[],⟨[],[(0, .sl 5)]⟩,[0]⟩)],[],[]⟩) (exS:=⟨[.str],[]⟩) Tryz.f105 (memC XJ zB) (by kernel_rfl) (by kernel_rfl) fun x=>by kernel_rfl
theorem aJ:zl Tryz.prog (EE Z7):=
 okC (A:=⟨[CE ZR],[],[],0,[],[],[]⟩) (exS:=⟨[.bool],[]⟩) Tryz.f72 (memC YJ zB) (by kernel_rfl) (by kernel_rfl) fun x=>by kernel_rfl
theorem zmx:zl Tryz.prog (xR Bz):=
 okC (A:=⟨[EE Z7,UE ZH],[],[],0,[],[],[]⟩) (exS:=⟨[.sl 49, .bool],[]⟩) Tryz.f111 (memC aJ (memC uJ zB)) (by kernel_rfl) (by kernel_rfl) fun x=>by kernel_rfl
theorem znQ:zl Tryz.prog (UR Vy):=
 okC (A:=⟨[CE ZR],[],[],0,[(4,⟨[3],⟨[.int .i64],[]⟩,[0],[],[],0,[],⟨[],[]⟩,[]⟩)],[],[]⟩) (exS:=⟨[.bool],[]⟩) Tryz.f94 (memC YJ zB) (by kernel_rfl) (by kernel_rfl) fun x=>by kernel_rfl
theorem znL:zl Tryz.prog (aR Nn):=
 okC (A:=⟨[],[],[],0,[(2,⟨[3],⟨[.int .i64],[]⟩,[0],[],[],0,[],⟨[],[]⟩,[]⟩)],[],[]⟩) (exS:=⟨[.bool],[]⟩) Tryz.f102 zB (by kernel_rfl) (by kernel_rfl) fun x=>by kernel_rfl
theorem Qs:zl Tryz.prog (Qc zH):=
 okC (A:=⟨[],[],[],0,[],[],[]⟩) (exS:=⟨[.bool],[]⟩) Tryz.f148 zB (by kernel_rfl) (by kernel_rfl) fun x=>by kernel_rfl
theorem O9:zl Tryz.prog (lQ Iy):=
 okC (A:=⟨[Qc zH],[],[],0,[],[],[]⟩) (exS:=⟨[.bool],[]⟩) Tryz.f103 (memC Qs zB) (by kernel_rfl) (by kernel_rfl) fun x=>by kernel_rfl
theorem oD:zl Tryz.prog (Ez ZT):=
 okC (A:=⟨[],[],[],0,[],[],[]⟩) (exS:=⟨[.bool],[]⟩) Tryz.f178 zB (by kernel_rfl) (by kernel_rfl) fun x=>by kernel_rfl
theorem Qr:zl Tryz.prog (Qy zx):=
 okC (A:=⟨[],[],[],0,[],[],[]⟩) (exS:=⟨[.int .u8],[]⟩) Tryz.f217 zB (by kernel_rfl) (by kernel_rfl) fun x=>by kernel_rfl
theorem lJ:zl Tryz.prog (vD ZY):=
 okC (A:=⟨[Qy zx,Ez ZT],[],[],0,[(1,⟨[1],⟨[.int .i64],[]⟩,[0,4],[],[],0,[1],⟨[.int .i64],[]⟩,[]⟩)],[],[]⟩) (exS:=⟨[.int .i64],[]⟩) Tryz.f179 (memC Qr (memC oD zB)) (by kernel_rfl) (by kernel_rfl) fun x=>by kernel_rfl
theorem JR:zl Tryz.prog (JJ Gn):=
 okC (A:=⟨[],[(1,[0])],[],0,[],[],[]⟩) (exS:=⟨[.str],[]⟩) Tryz.f244 zB (by kernel_rfl) (by kernel_rfl) fun x=>by kernel_rfl
theorem X7:zl Tryz.prog (IQ Dm):=
 okC (A:=⟨[Qc zH,yD Qu],[],[],0,[],[],[]⟩) (exS:=⟨[.int .i64],[]⟩) Tryz.f245 (memC Qs (memC XJ zB)) (by kernel_rfl) (by kernel_rfl) fun x=>by kernel_rfl
theorem S9:zl Tryz.prog (oQ Xt):=
 okC (A:=⟨[JJ Gn],[(4,[2]),(6,[8]),(8,[13]),(9,[18])],[],0,[],[],[]⟩) (exS:=⟨[.str],[]⟩) Tryz.f246 (memC JR zB) (by kernel_rfl) (by kernel_rfl) fun x=>by kernel_rfl
theorem bE:zl Tryz.prog (Q7 Zf):=
 okC (A:=⟨[JJ Gn,IQ Dm,Qy zx,Ez ZT,oQ Xt],[],[],0,[(7,⟨[6,7],⟨[.int .i64, .int .i64],[]⟩,[0,1,4,5],[],[],0,[6,7],⟨[.int .i64, .int .i64],[]⟩,[]⟩)],[(12,⟨[7],⟨[.int .i64],[]⟩,[6],[],[],0,[],⟨[],[]⟩,[]⟩)],[]⟩) (exS:=⟨[.str, .int .i64],[]⟩) Tryz.f218 (memC JR (memC X7 (memC Qr (memC oD (memC S9 zB))))) (by kernel_rfl) (by kernel_rfl) fun x=>by kernel_rfl
theorem zmr:zl Tryz.prog (JS Hq):=
 okC (A:=⟨[Q7 Zf],[],[],0,[(4,⟨[1],⟨[.int .i64],[(0, .row 44),(1, .row 44)]⟩,[0,4,6,7],[],[0,1],0,[1],⟨[.int .i64],[(0, .row 44),(1, .row 44)]⟩,[0,1]⟩)],[],[]⟩) (exS:=⟨[.optr 0, .int .i64],[(0, .row 44)]⟩) Tryz.f180 (memC bE zB) (by kernel_rfl) (by kernel_rfl) fun x=>by kernel_rfl
theorem xS:zl Tryz.prog (rJ Iq):=
 okC (A:=⟨[yD Qu],[],[],0,[],[],[]⟩) (exS:=⟨[.bool],[]⟩) Tryz.f198 (memC XJ zB) (by kernel_rfl) (by kernel_rfl) fun x=>by kernel_rfl
theorem DT:zl Tryz.prog (tJ Qi):=
 okC (A:=⟨[rJ Iq,Qc zH],[],[],0,[],[],[]⟩) (exS:=⟨[.bool],[]⟩) Tryz.f163 (memC xS (memC Qs zB)) (by kernel_rfl) (by kernel_rfl) fun x=>by kernel_rfl
theorem Iz:zl Tryz.prog (QY zQ):=
 okC (A:=⟨[Qy zx],[],[],0,[],[],[]⟩) (exS:=⟨[.bool],[]⟩) Tryz.f181 (memC Qr zB) (by kernel_rfl) (by kernel_rfl) fun x=>by kernel_rfl
theorem WJ:zl Tryz.prog (xD qx):=
 okC (A:=⟨[tJ Qi,QY zQ,Q7 Zf],[],[],0,[(2,⟨[1,6],⟨[.int .i64, .str],[]⟩,[0],[],[],0,[],⟨[],[]⟩,[]⟩)],[],[]⟩) (exS:=⟨[.str, .int .i64],[]⟩) Tryz.f182 (memC DT (memC Iz (memC bE zB))) (by kernel_rfl) (by kernel_rfl) fun x=>by kernel_rfl
theorem yS:zl Tryz.prog (sJ ZN):=
 okC (A:=⟨[Qy zx,rJ Iq,QY zQ],[],[],0,[],[],[]⟩) (exS:=⟨[.bool],[]⟩) Tryz.f183 (memC Qr (memC xS (memC Iz zB))) (by kernel_rfl) (by kernel_rfl) fun x=>by kernel_rfl
theorem zjl:zl Tryz.prog (uS Q3):=
 okC (A:=⟨[Qy zx,Qc zH],[],[],0,[],[(4,⟨[1],⟨[.int .i64],[]⟩,[0],[],[],0,[],⟨[],[]⟩,[]⟩),(6,⟨[1],⟨[.int .i64],[]⟩,[],[],[],0,[],⟨[],[]⟩,[]⟩)],[]⟩) (exS:=⟨[.bool],[]⟩) Tryz.f184 (memC Qr (memC Qs zB)) (by kernel_rfl) (by kernel_rfl) fun x=>by kernel_rfl
theorem zmq:zl Tryz.prog (KS qH):=
 okC (A:=⟨[Qy zx,Qc zH],[],[],0,[(1,⟨[1],⟨[.int .i64],[]⟩,[0,4],[],[],0,[1],⟨[.int .i64],[]⟩,[]⟩)],[],[]⟩) (exS:=⟨[.int .i64],[]⟩) Tryz.f247 (memC Qr (memC Qs zB)) (by kernel_rfl) (by kernel_rfl) fun x=>by kernel_rfl
theorem zio:zl Tryz.prog (FT qO):=
 okC (A:=⟨[Qy zx,KS qH,Qc zH],[],[],0,[],[(4,⟨[1],⟨[.int .i64],[]⟩,[0],[],[],0,[],⟨[],[]⟩,[]⟩),(9,⟨[1,7],⟨[.int .i64, .bool],[]⟩,[],[],[],0,[],⟨[],[]⟩,[]⟩),(15,⟨[1,7,9],⟨[.int .i64, .bool, .int .i64],[]⟩,[],[],[],0,[],⟨[],[]⟩,[]⟩),(18,⟨[1,7],⟨[.int .i64, .bool],[]⟩,[],[],[],0,[],⟨[],[]⟩,[]⟩)],[]⟩) (exS:=⟨[.int .i64, .bool],[]⟩) Tryz.f219 (memC Qr (memC zmq (memC Qs zB))) (by kernel_rfl) (by kernel_rfl) fun x=>by kernel_rfl
theorem zgC:zl Tryz.prog (YT Z8):=
 okC (A:=⟨[Qy zx,Qc zH],[],[],0,[(5,⟨[3,5],⟨[.str, .int .i64],[]⟩,[4],[],[],0,[3,5],⟨[.str, .int .i64],[]⟩,[]⟩),(10,⟨[3,4,5],⟨[.str, .int .i64, .int .i64],[]⟩,[],[],[],2,[3,4,5],⟨[.str, .int .i64, .int .i64],[]⟩,[]⟩),(20,⟨[5,8],⟨[.int .i64, .int .i64],[]⟩,[4],[],[],4,[8],⟨[.int .i64],[]⟩,[]⟩),(28,⟨[9,10],⟨[.int .i64, .int .i64],[]⟩,[4],[],[],6,[9],⟨[.int .i64],[]⟩,[]⟩),(31,⟨[4,9],⟨[.int .i64, .int .i64],[]⟩,[],[],[],8,[9],⟨[.int .i64],[]⟩,[]⟩)],[(5,⟨[3,4,5],⟨[.str, .int .i64, .int .i64],[]⟩,[0,6],[],[],0,[],⟨[],[]⟩,[]⟩),(14,⟨[3,4,5],⟨[.str, .int .i64, .int .i64],[]⟩,[],[],[],0,[],⟨[],[]⟩,[]⟩),(19,⟨[4,5],⟨[.int .i64, .int .i64],[]⟩,[3,7],[],[],0,[],⟨[],[]⟩,[]⟩),(25,⟨[4,8],⟨[.int .i64, .int .i64],[]⟩,[],[],[],0,[],⟨[],[]⟩,[]⟩),(26,⟨[4],⟨[.int .i64],[]⟩,[3],[],[],0,[],⟨[],[]⟩,[]⟩)],[]⟩) (exS:=⟨[.int .i64],[]⟩) Tryz.f220 (memC Qr (memC Qs zB)) (by kernel_rfl) (by kernel_rfl) fun x=>by kernel_rfl
theorem zke:zl Tryz.prog (nS QO):=
 okC (A:=⟨[FT qO,YT Z8,sJ ZN,xD qx,Qy zx],[],[],0,[],[(9,⟨[6],⟨[.int .i64],[(0, .row 44),(1, .row 44)]⟩,[4,8],[],[0,1],0,[],⟨[],[]⟩,[]⟩)],[]⟩) (exS:=⟨[.optr 0, .int .i64],[(0, .row 44)]⟩) Tryz.f185 (memC zio (memC zgC (memC yS (memC WJ (memC Qr zB))))) (by kernel_rfl) (by kernel_rfl) fun x=>by kernel_rfl
theorem DR:zl Tryz.prog (wI QV):=
 okC (A:=⟨[],[],[],0,[],[],[]⟩) (exS:=⟨[.bool],[]⟩) Tryz.f186 zB (by kernel_rfl) (by kernel_rfl) fun x=>by kernel_rfl
theorem V7:zl Tryz.prog (GQ El):=
 okC (A:=⟨[QY zQ,Q7 Zf],[],[],0,[(1,⟨[1],⟨[.int .i64],[]⟩,[0,4,5],[0],[],0,[1],⟨[.int .i64],[]⟩,[]⟩)],[],[]⟩) (exS:=⟨[.optr 0, .int .i64],[(0, .row 44)]⟩) Tryz.f248 (memC Iz (memC bE zB)) (by kernel_rfl) (by kernel_rfl) fun x=>by kernel_rfl
theorem zgD:zl Tryz.prog (XT qK):=
 okC (A:=⟨[],[],[],0,[],[],[]⟩) (exS:=⟨[.bool],[]⟩) Tryz.f249 zB (by kernel_rfl) (by kernel_rfl) fun x=>by kernel_rfl
theorem U7:zl Tryz.prog (FQ gp):=
 okC (A:=⟨[vD ZY,Ez ZT,GQ El,XT qK,QY zQ,Q7 Zf],[],[],0,[(3,⟨[1],⟨[.int .i64],[(0, .row 44),(1, .row 44)]⟩,[0,4,6],[],[0,1],0,[1],⟨[.int .i64],[(0, .row 44),(1, .row 44)]⟩,[0,1]⟩)],[],[]⟩) (exS:=⟨[.optr 0, .int .i64],[(0, .row 44)]⟩) Tryz.f221 (memC lJ (memC oD (memC V7 (memC zgD (memC Iz (memC bE zB)))))) (by kernel_rfl) (by kernel_rfl) fun x=>by kernel_rfl
theorem P9:zl Tryz.prog (mQ Cq):=
 okC (A:=⟨[xD qx,Qy zx,EE Z7,vD ZY,FQ gp],[],[],0,[],[(8,⟨[],⟨[],[(0, .row 44)]⟩,[4,6,7],[],[0],0,[],⟨[],[]⟩,[]⟩)],[]⟩) (exS:=⟨[.optr 0, .int .i64],[(0, .row 44)]⟩) Tryz.f187 (memC WJ (memC Qr (memC aJ (memC lJ (memC U7 zB))))) (by kernel_rfl) (by kernel_rfl) fun x=>by kernel_rfl
theorem R9:zl Tryz.prog (nQ Dq):=
 okC (A:=⟨[],[],[],0,[],[],[]⟩) (exS:=⟨[.int .u8],[]⟩) Tryz.f188 zB (by kernel_rfl) (by kernel_rfl) fun x=>by kernel_rfl
theorem ER:zl Tryz.prog (xI Gl):=
 okC (A:=⟨[Ez ZT,vD ZY,JS Hq,tJ Qi,QY zQ,xD qx,sJ ZN,uS Q3,nS QO,wI QV,mQ Cq,nQ Dq],[],[],0,[],[],[]⟩) (exS:=⟨[.optr 0, .int .i64],[(0, .row 44)]⟩) Tryz.f149 (memC oD (memC lJ (memC zmr (memC DT (memC Iz (memC WJ (memC yS (memC zjl (memC zke (memC DR (memC P9 (memC R9 zB)))))))))))) (by kernel_rfl) (by kernel_rfl) fun x=>by kernel_rfl
theorem znK:zl Tryz.prog (bR qP):=
 okC (A:=⟨[xI Gl],[(1,[1])],[],0,[],[],[]⟩) (exS:=⟨[.bool],[]⟩) Tryz.f104 (memC ER zB) (by kernel_rfl) (by kernel_rfl) fun x=>by kernel_rfl
theorem N9:zl Tryz.prog (kQ Hy):=
 okC (A:=⟨[aR Nn,lQ Iy,bR qP],[],[],0,[],[(6,⟨[8],⟨[.bool],[(1, .row 44)]⟩,[1,3,7],[0],[1],0,[],⟨[],[]⟩,[]⟩),(13,⟨[56],⟨[.bool],[(1, .row 44)]⟩,[],[],[1],0,[],⟨[],[]⟩,[]⟩),(21,⟨[90],⟨[.bool],[(1, .row 44)]⟩,[],[],[1],0,[],⟨[],[]⟩,[]⟩),(26,⟨[148],⟨[.bool],[]⟩,[],[1],[],0,[],⟨[],[]⟩,[]⟩)],[]⟩) (exS:=⟨[.bool],[]⟩) Tryz.f71 (memC znL (memC O9 (memC znK zB))) (by kernel_rfl) (by kernel_rfl) fun x=>by kernel_rfl
theorem znJ:zl Tryz.prog (dR Pq):=
 okC (A:=⟨[kQ Hy,EE Z7],[],[],0,[(4,⟨[3],⟨[.int .i64],[]⟩,[0],[],[],0,[],⟨[],[]⟩,[]⟩)],[(12,⟨[4],⟨[.int .i64],[]⟩,[3],[],[],0,[],⟨[],[]⟩,[]⟩),(14,⟨[],⟨[],[]⟩,[3],[],[],0,[],⟨[],[]⟩,[]⟩)],[]⟩) (exS:=⟨[.int .i64],[]⟩) Tryz.f35 (memC N9 (memC aJ zB)) (by kernel_rfl) (by kernel_rfl) fun x=>by kernel_rfl
theorem zki(qd:List zb->Option Bool)(hs:zl Tryz.prog (Q8 qd)):zl Tryz.prog (Q8 (VE qd)):=
 okC (A:=⟨[Q8 qd],[],[],0,[(2,⟨[3],⟨[.int .i64],[]⟩,[0],[],[],0,[],⟨[],[]⟩,[]⟩)],[],[]⟩) (exS:=⟨[.bool],[]⟩) Tryz.f131 (memC hs zB) (by kernel_rfl) (by kernel_rfl) fun x=>by kernel_rfl
theorem zkf:zl Tryz.prog (Q8 qd):=
 zl.recE (I:=I) (P:=Tryz.prog) (f:=131) (inS:=⟨[.sl 49],[]⟩) (cst:=[]) (outS:=⟨[.bool],[]⟩) (k:=0) (VE) (by kernel_rfl) (fun S h=>zki S h)
theorem zmv:zl Tryz.prog (BS Dz):=
 okC (A:=⟨[],[],[],0,[],[],[]⟩) (exS:=⟨[.bool],[]⟩) Tryz.f132 zB (by kernel_rfl) (by kernel_rfl) fun x=>by kernel_rfl
theorem zmw:zl Tryz.prog (yR Cz):=
 okC (A:=⟨[wD QP,Qm ZB,dR Pq,Q8 qd,UE ZH,BS Dz],[],[],0,[(6,⟨[5],⟨[.int .i64],[]⟩,[1],[],[],0,[],⟨[],[]⟩,[]⟩)],[],[]⟩) (exS:=⟨[.bool],[]⟩) Tryz.f95 (memC VJ (memC kJ (memC znJ (memC zkf (memC uJ (memC zmv zB)))))) (by kernel_rfl) (by kernel_rfl) fun x=>by kernel_rfl
theorem znP:zl Tryz.prog (VR Wy):=
 okC (A:=⟨[UR Vy,yR Cz],[],[],0,[],[],[]⟩) (exS:=⟨[.int .i64],[]⟩) Tryz.f53 (memC znQ (memC zmw zB)) (by kernel_rfl) (by kernel_rfl) fun x=>by kernel_rfl
theorem bS:zl Tryz.prog (iJ Oq):=
 okC (A:=⟨[UE ZH,CE ZR,xR Bz,VR Wy],[],[],0,[],[(7,⟨[0],⟨[.sl 49],[(0, .cells 66 [.str, .nilv, .bool]),(1, .cells 66 [.str, .nilv, .bool])]⟩,[2,4],[],[0,1],0,[],⟨[],[]⟩,[]⟩)],[]⟩) (exS:=⟨[.optr 0, .bool],[(0, .row 66)]⟩) Tryz.f74 (memC uJ (memC YJ (memC zmx (memC znP zB)))) (by kernel_rfl) (by kernel_rfl) fun x=>by kernel_rfl
theorem R7:zl Tryz.prog (EQ Yx):=
 okC (A:=⟨[wD QP,iJ Oq],[],[],0,[],[],[]⟩) (exS:=⟨[.optr 0, .bool, .int .i64],[(0, .row 66)]⟩) Tryz.f38 (memC VJ (memC bS zB)) (by kernel_rfl) (by kernel_rfl) fun x=>by kernel_rfl
theorem U9:zl Tryz.prog (rQ Jy):=
 okC (A:=⟨[wy QB,Eu QC],[(12,[7]),(15,[5])],[],0,[(9,⟨[7,8,24],⟨[.own 1312, .int .i64, .int .i64],[(1312, .sl 23)]⟩,[0,1,4,5,22,23],[],[],0,[7,8],⟨[.own 1312, .int .i64],[(1312, .sl 23)]⟩,[1312]⟩)],[(14,⟨[7,8,24],⟨[.own 1414, .int .i64, .int .i64],[(1414, .sl 23)]⟩,[],[],[],0,[],⟨[],[]⟩,[]⟩)],[]⟩) (exS:=⟨[.sl 23, .int .i64],[]⟩) Tryz.f28 (memC NE (memC FR zB)) (by kernel_rfl) (by kernel_rfl) fun x=>by kernel_rfl
theorem rO:zl Tryz.prog (nH vo):=
 okC (A:=⟨[rQ Jy,VI Ep],[(10,[2])],[],0,[(6,⟨[6,21],⟨[.own 1416, .int .i64],[(1416, .sl 66)]⟩,[2,3,19,20],[],[],0,[6],⟨[.own 1416],[(1416, .sl 66)]⟩,[1416]⟩)],[(11,⟨[6,21],⟨[.own 1518, .int .i64],[(1518, .sl 66)]⟩,[],[],[],0,[],⟨[],[]⟩,[]⟩)],[]⟩) (exS:=⟨[.sl 66, .int .i64],[]⟩) Tryz.f39 (memC U9 (memC mP zB)) (by kernel_rfl) (by kernel_rfl) fun x=>by kernel_rfl
theorem znO:zl Tryz.prog (WR Xy):=
 okC (A:=⟨[],[(1,[100000]),(6,[100001]),(8,[15]),(10,[14])],[],0,[(3,⟨[5,6],⟨[.own 1521, .int .i64],[(1521, .slo 23 [.own 1625]),(1625, .sl 49)]⟩,[0,1,4],[],[],0,[5],⟨[.own 1521],[(1521, .slo 23 [.own 1625]),(1625, .sl 49)]⟩,[1521,1625]⟩)],[(4,⟨[5,6],⟨[.own 1727, .int .i64],[(1727, .slo 23 [.own 1728]),(1728, .sl 49)]⟩,[],[],[],0,[],⟨[],[]⟩,[]⟩)],[(6,[5])]⟩) (exS:=⟨[.sl 23],[]⟩) Tryz.f112 zB (by kernel_rfl) (by kernel_rfl) fun x=>by kernel_rfl
theorem CR:zl Tryz.prog (vI Yp):=
 okC (A:=⟨[WR Xy,iJ Oq],[(8,[2])],[],0,[(4,⟨[3,5],⟨[.own 1730, .int .i64],[(1730, .sl 66)]⟩,[2,4],[],[],0,[3],⟨[.own 1730],[(1730, .sl 66)]⟩,[1730]⟩)],[(5,⟨[3,5],⟨[.own 1832, .int .i64],[(1832, .sl 66)]⟩,[],[],[],0,[],⟨[],[]⟩,[]⟩)],[]⟩) (exS:=⟨[.sl 66],[]⟩) Tryz.f75 (memC znO (memC bS zB)) (by kernel_rfl) (by kernel_rfl) fun x=>by kernel_rfl
theorem I5:zl Tryz.prog (jP Sw):=
 okC (A:=⟨[wD QP,vI Yp],[],[],0,[],[],[]⟩) (exS:=⟨[.sl 66, .int .i64],[]⟩) Tryz.f40 (memC VJ (memC CR zB)) (by kernel_rfl) (by kernel_rfl) fun x=>by kernel_rfl
theorem zej:zl Tryz.prog (uT Zm):=
 okC (A:=⟨[ZI strings_HasPrefix,mG Ul],[],[],1,[(0,⟨[],⟨[],[(0, .row 133)]⟩,[0],[],[0],0,[],⟨[],[(0, .row 133)]⟩,[0]⟩)],[],[]⟩) (exS:=⟨[],[(0, .row 133)]⟩) Tryz.f100 (memC ZX (memC nN zB)) (by kernel_rfl) (by kernel_rfl) fun x=>by kernel_rfl
theorem zA:zl Tryz.prog (zy zg):=
 okC (A:=⟨[],[],[],1,[],[],[]⟩) (exS:=⟨[.int .i64],[]⟩) Tryz.f137 zB (by kernel_rfl) (by kernel_rfl) fun x=>by kernel_rfl
theorem Kz:zl Tryz.prog (Iu qz):=
 okC (A:=⟨[],[],[],0,[],[],[]⟩) (exS:=⟨[.bool],[]⟩) Tryz.f138 zB (by kernel_rfl) (by kernel_rfl) fun x=>by kernel_rfl
theorem Q6:zl Tryz.prog (Qd zV):=
 okC (A:=⟨[zy zg,Iu qz],[],[],1,[(0,⟨[],⟨[],[(0, .row 133)]⟩,[0,1],[],[0],0,[],⟨[],[(0, .row 133)]⟩,[0]⟩)],[],[]⟩) (exS:=⟨[],[(0, .row 133)]⟩) Tryz.f139 (memC zA (memC Kz zB)) (by kernel_rfl) (by kernel_rfl) fun x=>by kernel_rfl
theorem zc3:zl Tryz.prog (BU qg):=
 okC (A:=⟨[],[(2,[1]),(4,[9]),(7,[14]),(9,[19])],[],0,[],[(7,⟨[25],⟨[.bool],[]⟩,[0,1,5],[],[],0,[],⟨[],[]⟩,[]⟩)],[]⟩) (exS:=⟨[.own 0],[(0, .sl 5)]⟩) Tryz.f237 zB (by kernel_rfl) (by kernel_rfl) fun x=>by kernel_rfl
theorem zgH:zl Tryz.prog (OT qa):=
 okC (A:=⟨[BU qg],[(2,[3])],[],0,[],[],[]⟩) (exS:=⟨[.own 0],[(0, .sl 5)]⟩) Tryz.f210 (memC zc3 zB) (by kernel_rfl) (by kernel_rfl) fun x=>by kernel_rfl
theorem WE:zl Tryz.prog (Rz Z0):=
 okC (A:=⟨[],[],[],0,[],[],[]⟩) (exS:=⟨[.bool],[]⟩) Tryz.f212 zB (by kernel_rfl) (by kernel_rfl) fun x=>by kernel_rfl
theorem Nz:zl Tryz.prog (Ju Zz):=
 okC (A:=⟨[Rz Z0],[],[],0,[],[],[]⟩) (exS:=⟨[.bool],[]⟩) Tryz.f174 (memC WE zB) (by kernel_rfl) (by kernel_rfl) fun x=>by kernel_rfl
theorem BR:zl Tryz.prog (sI En):=
 okC (A:=⟨[Ju Zz,Rz Z0],[],[],0,[],[],[]⟩) (exS:=⟨[.int .i64],[]⟩) Tryz.f211 (memC Nz (memC WE zB)) (by kernel_rfl) (by kernel_rfl) fun x=>by kernel_rfl
theorem zdM:zl Tryz.prog (CU ZU):=
 okC (A:=⟨[zy zg,OT qa,sI En,Iu qz],[(7,[3])],[],1,[(10,⟨[6,36],⟨[.int .i64, .int .i64],[(0, .row 133)]⟩,[0,1,4],[],[0],0,[6],⟨[.int .i64],[(0, .row 133)]⟩,[0]⟩)],[(17,⟨[6],⟨[.int .i64],[(0, .row 133)]⟩,[1],[],[0],0,[],⟨[],[]⟩,[]⟩),(19,⟨[6],⟨[.int .i64],[]⟩,[],[0],[],0,[],⟨[],[]⟩,[]⟩)],[]⟩) (exS:=⟨[.own 1],[(0, .row 133),(1, .sl 5)]⟩) Tryz.f172 (memC zA (memC zgH (memC BR (memC Kz zB)))) (by kernel_rfl) (by kernel_rfl) fun x=>by kernel_rfl
theorem zc4:zl Tryz.prog (AU qh):=
 okC (A:=⟨[],[(2,[1]),(4,[9]),(7,[14]),(9,[19])],[],1,[],[(7,⟨[25],⟨[.bool],[(0, .sl 5)]⟩,[0,1,5],[],[0],0,[],⟨[],[]⟩,[]⟩)],[]⟩) (exS:=⟨[.own 1],[(1, .sl 5)]⟩) Tryz.f237 zB (by kernel_rfl) (by kernel_rfl) fun x=>by kernel_rfl
theorem zgI:zl Tryz.prog (NT qb):=
 okC (A:=⟨[AU qh],[(2,[3])],[],1,[],[],[]⟩) (exS:=⟨[.own 1],[(1, .sl 5)]⟩) Tryz.f210 (memC zc4 zB) (by kernel_rfl) (by kernel_rfl) fun x=>by kernel_rfl
theorem qX:zl Tryz.prog (qc zP):=
 okC (A:=⟨[zy zg,NT qb,sI En,Iu qz],[(7,[3])],[],2,[(10,⟨[6,36],⟨[.int .i64, .int .i64],[(0, .row 133)]⟩,[0,1,4],[1],[0],0,[6],⟨[.int .i64],[(0, .row 133)]⟩,[0]⟩)],[(17,⟨[6],⟨[.int .i64],[(0, .row 133),(1, .sl 5)]⟩,[1],[],[0,1],0,[],⟨[],[]⟩,[]⟩),(19,⟨[6],⟨[.int .i64],[(1, .sl 5)]⟩,[],[0],[1],0,[],⟨[],[]⟩,[]⟩)],[]⟩) (exS:=⟨[.own 2],[(0, .row 133),(2, .sl 5)]⟩) Tryz.f172 (memC zA (memC zgI (memC BR (memC Kz zB)))) (by kernel_rfl) (by kernel_rfl) fun x=>by kernel_rfl
theorem zfc:zl Tryz.prog (wT qD):=
 okC (A:=⟨[zy zg,qc zP],[(5,[3])],[],1,[(4,⟨[4],⟨[.own 1833],[(0, .row 133),(1, .row 44),(1833, .sl 5)]⟩,[0,2,3],[],[0,1],0,[4],⟨[.own 1833],[(0, .row 133),(1, .row 44),(1833, .sl 5)]⟩,[0,1,1833]⟩)],[],[]⟩) (exS:=⟨[.optr 1],[(0, .row 133),(1, .row 44)]⟩) Tryz.f140 (memC zA (memC qX zB)) (by kernel_rfl) (by kernel_rfl) fun x=>by kernel_rfl
theorem YS:zl Tryz.prog (fJ Kq):=
 okC (A:=⟨[Rz Z0],[],[],0,[],[],[]⟩) (exS:=⟨[.bool],[]⟩) Tryz.f173 (memC WE zB) (by kernel_rfl) (by kernel_rfl) fun x=>by kernel_rfl
theorem wS:zl Tryz.prog (pJ Bu):=
 okC (A:=⟨[fJ Kq,Ju Zz],[],[],0,[],[],[]⟩) (exS:=⟨[.bool],[]⟩) Tryz.f141 (memC YS (memC Nz zB)) (by kernel_rfl) (by kernel_rfl) fun x=>by kernel_rfl
theorem ZQ:zl Tryz.prog (ZE zw):=
 okC (A:=⟨[zy zg],[],[],1,[],[],[]⟩) (exS:=⟨[.bool],[]⟩) Tryz.f142 (memC zA zB) (by kernel_rfl) (by kernel_rfl) fun x=>by kernel_rfl
theorem fT:zl Tryz.prog (yJ zI):=
 okC (A:=⟨[zy zg,fJ Kq,ZE zw],[],[],1,[],[],[]⟩) (exS:=⟨[.bool],[]⟩) Tryz.f143 (memC zA (memC YS (memC ZQ zB))) (by kernel_rfl) (by kernel_rfl) fun x=>by kernel_rfl
theorem wJ:zl Tryz.prog (Qw zO):=
 okC (A:=⟨[zy zg,pJ Bu,ZE zw,qc zP],[(5,[3])],[],1,[(2,⟨[3],⟨[.own 1834],[(0, .row 133),(1834, .sl 5)]⟩,[0],[],[0],0,[],⟨[],[]⟩,[]⟩)],[],[]⟩) (exS:=⟨[.str],[(0, .row 133)]⟩) Tryz.f144 (memC zA (memC wS (memC ZQ (memC qX zB)))) (by kernel_rfl) (by kernel_rfl) fun x=>by kernel_rfl
theorem zfb:zl Tryz.prog (yT ZA):=
 okC (A:=⟨[zy zg,Ju Zz],[],[],1,[],[(5,⟨[3],⟨[.int .i64],[]⟩,[0],[],[],0,[],⟨[],[]⟩,[]⟩),(7,⟨[3],⟨[.int .i64],[]⟩,[],[],[],0,[],⟨[],[]⟩,[]⟩)],[]⟩) (exS:=⟨[.bool],[]⟩) Tryz.f145 (memC zA (memC Nz zB)) (by kernel_rfl) (by kernel_rfl) fun x=>by kernel_rfl
theorem zeK:zl Tryz.prog (lT zR):=
 okC (A:=⟨[zy zg,Ju Zz],[],[],1,[(0,⟨[],⟨[],[(0, .row 133)]⟩,[0,1],[],[0],0,[],⟨[],[(0, .row 133)]⟩,[0]⟩)],[],[]⟩) (exS:=⟨[],[(0, .row 133)]⟩) Tryz.f139 (memC zA (memC Nz zB)) (by kernel_rfl) (by kernel_rfl) fun x=>by kernel_rfl
theorem zeI:zl Tryz.prog (rT qj):=
 okC (A:=⟨[zy zg,lT zR,Ju Zz],[],[],1,[],[(4,⟨[],⟨[],[(0, .row 133)]⟩,[0],[],[0],0,[],⟨[],[]⟩,[]⟩),(10,⟨[4],⟨[.bool],[(0, .row 133)]⟩,[],[],[0],0,[],⟨[],[]⟩,[]⟩),(15,⟨[4,5],⟨[.bool, .int .i64],[(0, .row 133)]⟩,[],[],[0],0,[],⟨[],[]⟩,[]⟩),(19,⟨[4],⟨[.bool],[(0, .row 133)]⟩,[],[],[0],0,[],⟨[],[]⟩,[]⟩)],[]⟩) (exS:=⟨[.bool],[(0, .row 133)]⟩) Tryz.f175 (memC zA (memC zeK (memC Nz zB))) (by kernel_rfl) (by kernel_rfl) fun x=>by kernel_rfl
theorem zgG:zl Tryz.prog (PT QH):=
 okC (A:=⟨[mM Wl,MQ yl,FV cutF],[],[],0,[(8,⟨[6,31],⟨[.int .i64, .int .i64],[]⟩,[0,2,3,4,5,29,30],[0],[],0,[6],⟨[.int .i64],[]⟩,[]⟩),(22,⟨[12,81],⟨[.int .i64, .int .i64],[]⟩,[4,79,80],[0],[],2,[12],⟨[.int .i64],[]⟩,[]⟩),(26,⟨[4,12],⟨[.int .i64, .int .i64],[]⟩,[],[],[],4,[12],⟨[.int .i64],[]⟩,[]⟩)],[(14,⟨[0,4,6],⟨[.str, .int .i64, .int .i64],[]⟩,[3,5],[],[],0,[],⟨[],[]⟩,[]⟩),(15,⟨[0,4],⟨[.str, .int .i64],[]⟩,[3],[],[],0,[],⟨[],[]⟩,[]⟩),(20,⟨[0,4],⟨[.str, .int .i64],[]⟩,[],[],[],0,[],⟨[],[]⟩,[]⟩),(31,⟨[12],⟨[.int .i64],[]⟩,[],[],[],0,[],⟨[],[]⟩,[]⟩)],[]⟩) (exS:=⟨[.int .i64],[]⟩) Tryz.f176 (memC RY (memC C8 (memC zBr zB))) (by kernel_rfl) (by kernel_rfl) fun x=>by kernel_rfl
theorem zeJ:zl Tryz.prog (nT ZO):=
 okC (A:=⟨[rT qj,PT QH,yJ zI,Qw zO,zy zg],[],[],1,[],[(9,⟨[],⟨[],[(0, .row 133),(1, .row 44),(2, .row 44)]⟩,[2,5],[],[0,1,2],0,[],⟨[],[]⟩,[]⟩)],[]⟩) (exS:=⟨[.optr 1],[(0, .row 133),(1, .row 44)]⟩) Tryz.f146 (memC zeI (memC zgG (memC fT (memC wJ (memC zA zB))))) (by kernel_rfl) (by kernel_rfl) fun x=>by kernel_rfl
theorem zgE:zl Tryz.prog (WT Z9):=
 okC (A:=⟨[zy zg,ZE zw,CU ZU],[],[],1,[(1,⟨[],⟨[],[(0, .row 133),(1, .row 44)]⟩,[0,2],[],[0,1],0,[],⟨[],[]⟩,[]⟩)],[],[]⟩) (exS:=⟨[.optr 1],[(0, .row 133),(1, .row 44)]⟩) Tryz.f216 (memC zA (memC ZQ (memC zdM zB))) (by kernel_rfl) (by kernel_rfl) fun x=>by kernel_rfl
theorem zgF:zl Tryz.prog (UT QG):=
 okC (A:=⟨[Qd zV,zy zg,Iu qz,WT Z9,Rz Z0,ZE zw,qc zP],[(18,[3])],[],1,[(3,⟨[3],⟨[.own 1835],[(0, .row 133),(1, .row 44),(1835, .sl 5)]⟩,[0,2],[],[0,1],0,[],⟨[],[]⟩,[]⟩)],[(10,⟨[3,4],⟨[.own 1835, .int .i64],[(0, .row 133),(1, .row 44),(1835, .sl 5)]⟩,[],[],[0,1,1835],0,[],⟨[],[]⟩,[]⟩)],[]⟩) (exS:=⟨[.optr 1],[(0, .row 133),(1, .row 44)]⟩) Tryz.f177 (memC Q6 (memC zA (memC Kz (memC zgE (memC WE (memC ZQ (memC qX zB))))))) (by kernel_rfl) (by kernel_rfl) fun x=>by kernel_rfl
theorem zfq:zl Tryz.prog (gT ZK):=
 okC (A:=⟨[Qw zO,zy zg,IE Qn,Qd zV,UT QG],[],[],1,[],[(11,⟨[],⟨[],[(0, .row 133),(1, .row 44)]⟩,[2,3],[],[0,1],0,[],⟨[],[]⟩,[]⟩)],[]⟩) (exS:=⟨[.optr 1],[(0, .row 133),(1, .row 44)]⟩) Tryz.f147 (memC wJ (memC zA (memC dJ (memC Q6 (memC zgF zB))))) (by kernel_rfl) (by kernel_rfl) fun x=>by kernel_rfl
theorem zfV:zl Tryz.prog (iT qo):=
 okC (A:=⟨[zy zg,Iu qz,Qd zV,wT qD,pJ Bu,ZE zw,yJ zI,Qw zO,yT ZA,nT ZO,ZI strings_HasPrefix,gT ZK,QM strings_IndexByte],[],[],1,[],[],[]⟩) (exS:=⟨[.optr 1],[(0, .row 133),(1, .row 44)]⟩) Tryz.f101 (memC zA (memC Kz (memC Q6 (memC zfc (memC wS (memC ZQ (memC fT (memC wJ (memC zfb (memC zeJ (memC ZX (memC zfq (memC xJ zB))))))))))))) (by kernel_rfl) (by kernel_rfl) fun x=>by kernel_rfl
theorem zhv:zl Tryz.prog (bT QX):=
 okC (A:=⟨[],[(1,[2])],[],2,[],[],[]⟩) (exS:=⟨[],[(0, .cells 22 [.own 2]),(2, .sl 44)]⟩) Tryz.f70 zB (by kernel_rfl) (by kernel_rfl) fun x=>by kernel_rfl
theorem zmz:zl Tryz.prog (vR xy):=
 okC (A:=⟨[oM il,uT Zm,iT qo,bT QX],[],[],1,[(7,⟨[7],⟨[.int .i64],[(0, .cells 22 [.own 1836]),(1836, .sl 44),(1, .row 133)]⟩,[0,1,6],[],[0,1],0,[],⟨[],[(0, .cells 22 [.own 1836]),(1836, .sl 44),(1, .row 133)]⟩,[0,1,1836]⟩)],[],[]⟩) (exS:=⟨[.int .i64],[(0, .cells 22 [.own 1]),(1, .sl 44)]⟩) Tryz.f69 (memC TY (memC zej (memC zfV (memC zhv zB)))) (by kernel_rfl) (by kernel_rfl) fun x=>by kernel_rfl
theorem zmy:zl Tryz.prog (wR Az):=
 okC (A:=⟨[vR xy],[],[],0,[],[],[]⟩) (exS:=⟨[.sl 44, .int .i64],[]⟩) Tryz.f33 (memC zmz zB) (by kernel_rfl) (by kernel_rfl) fun x=>by kernel_rfl
theorem F8:zl Tryz.prog (YQ Rx):=
 okC (A:=⟨[wR Az,nM parseF,nH vo],[],[],0,[],[],[]⟩) (exS:=⟨[.sl 66, .int .i64],[]⟩) Tryz.f41 (memC zmy (memC SY (memC rO zB))) (by kernel_rfl) (by kernel_rfl) fun x=>by kernel_rfl
theorem zkd:zl Tryz.prog (sS Hz):=
 okC (A:=⟨[],[(10,[1]),(11,[2])],[],0,[(3,⟨[3,4],⟨[.str, .int .i64],[]⟩,[0,2],[],[],0,[3],⟨[.str],[]⟩,[]⟩)],[(4,⟨[3,4],⟨[.str, .int .i64],[]⟩,[],[],[],0,[],⟨[],[]⟩,[]⟩),(9,⟨[3,5],⟨[.str, .int .u8],[]⟩,[4],[],[],0,[],⟨[],[]⟩,[]⟩)],[]⟩) (exS:=⟨[.str],[]⟩) Tryz.f151 zB (by kernel_rfl) (by kernel_rfl) fun x=>by kernel_rfl
theorem znI:zl Tryz.prog (iR XD):=
 okC (A:=⟨[sS Hz],[],[],0,[],[],[]⟩) (exS:=⟨[.str, .int .i64],[]⟩) Tryz.f113 (memC zkd zB) (by kernel_rfl) (by kernel_rfl) fun x=>by kernel_rfl
theorem T9:zl Tryz.prog (pQ Fq):=
 okC (A:=⟨[wI QV],[],[],0,[(1,⟨[1],⟨[.int .i64],[]⟩,[0,4],[],[],0,[1],⟨[.int .i64],[]⟩,[]⟩),(3,⟨[1],⟨[.int .i64],[]⟩,[],[],[],2,[1],⟨[.int .i64],[]⟩,[]⟩)],[],[]⟩) (exS:=⟨[.int .i64],[]⟩) Tryz.f152 (memC DR zB) (by kernel_rfl) (by kernel_rfl) fun x=>by kernel_rfl
theorem Y7:zl Tryz.prog (JQ yw):=
 okC (A:=⟨[pQ Fq,xI Gl],[(6,[2,8])],[],0,[(4,⟨[4,5,6],⟨[.own 1837, .own 1838, .int .i64],[(1837, .sl 44),(1838, .sl 172)]⟩,[0,2,3],[],[],0,[4,5],⟨[.own 1837, .own 1838],[(1837, .sl 44),(1838, .sl 172)]⟩,[1837,1838]⟩)],[],[]⟩) (exS:=⟨[.sl 44, .sl 172],[]⟩) Tryz.f114 (memC T9 (memC ER zB)) (by kernel_rfl) (by kernel_rfl) fun x=>by kernel_rfl
theorem zmp:zl Tryz.prog (MS iy):=
 okC (A:=⟨[iR XD,JQ yw],[],[],0,[],[],[]⟩) (exS:=⟨[.sl 44, .int .i64],[]⟩) Tryz.f76 (memC znI (memC Y7 zB)) (by kernel_rfl) (by kernel_rfl) fun x=>by kernel_rfl
theorem zm1(ZZ:List zf×Int×Int×Int->Option (List zb×Int))(hs:zl Tryz.prog (Sz ZZ)):zl Tryz.prog (Sz (lD ZZ)):=
 okC (A:=⟨[Uz qi,Sz ZZ],[(12,[2])],[],0,[(2,⟨[1,10],⟨[.int .i64, .own 1839],[(1839, .sl 49)]⟩,[0,2,3],[],[],0,[1,10],⟨[.int .i64, .own 1839],[(1839, .sl 49)]⟩,[1839]⟩)],[(12,⟨[1,10],⟨[.int .i64, .own 1839],[(1839, .sl 49),(1840, .row 49)]⟩,[11],[],[1839,1840],0,[],⟨[],[]⟩,[]⟩)],[]⟩) (exS:=⟨[.sl 49, .int .i64],[]⟩) Tryz.f96 (memC XE (memC hs zB)) (by kernel_rfl) (by kernel_rfl) fun x=>by kernel_rfl
theorem zmu:zl Tryz.prog (Sz ZZ):=
 zl.recE (I:=I) (P:=Tryz.prog) (f:=96) (inS:=⟨[.sl 44, .int .i64, .int .u8, .int .i64],[]⟩) (cst:=[]) (outS:=⟨[.sl 49, .int .i64],[]⟩) (k:=0) (lD) (by kernel_rfl) (fun S h=>zm1 S h)
theorem zms:zl Tryz.prog (CS gy):=
 okC (A:=⟨[Sz ZZ],[],[],0,[],[],[]⟩) (exS:=⟨[.sl 49, .bool],[]⟩) Tryz.f62 (memC zmu zB) (by kernel_rfl) (by kernel_rfl) fun x=>by kernel_rfl
theorem znN:zl Tryz.prog (XR Yy):=
 okC (A:=⟨[CS gy,Qm ZB],[],[],0,[],[],[]⟩) (exS:=⟨[.sl 49, .int .i64],[]⟩) Tryz.f17 (memC zms (memC kJ zB)) (by kernel_rfl) (by kernel_rfl) fun x=>by kernel_rfl
theorem K9:zl Tryz.prog (jQ Gy):=
 okC (A:=⟨[MS iy,XR Yy,vI Yp],[],[],0,[],[],[]⟩) (exS:=⟨[.sl 66, .int .i64],[]⟩) Tryz.f42 (memC zmp (memC znN (memC CR zB))) (by kernel_rfl) (by kernel_rfl) fun x=>by kernel_rfl
theorem O8(Q5:List zb×List zb->Option Bool)(hs:zl Tryz.prog (uy Q5)):zl Tryz.prog (uy (gD Q5)):=
 okC (A:=⟨[uy Q5],[],[],0,[(4,⟨[5],⟨[.int .i64],[]⟩,[0,1],[],[],0,[],⟨[],[]⟩,[]⟩)],[],[]⟩) (exS:=⟨[.bool],[]⟩) Tryz.f22 (memC hs zB) (by kernel_rfl) (by kernel_rfl) fun x=>by kernel_rfl
theorem M9:zl Tryz.prog (uy Q5):=
 zl.recE (I:=I) (P:=Tryz.prog) (f:=22) (inS:=⟨[.sl 49, .sl 49],[]⟩) (cst:=[]) (outS:=⟨[.bool],[]⟩) (k:=0) (gD) (by kernel_rfl) (fun S h=>O8 S h)
theorem aS:zl Tryz.prog (gJ Nq):=
 okC (A:=⟨[uy Q5],[],[],0,[],[],[]⟩) (exS:=⟨[.bool],[]⟩) Tryz.f43 (memC M9 zB) (by kernel_rfl) (by kernel_rfl) fun x=>by kernel_rfl
theorem J9:zl Tryz.prog (iQ Wt):=
 okC (A:=⟨[gJ Nq],[],[],0,[(4,⟨[5],⟨[.int .i64],[]⟩,[0,1],[],[],0,[],⟨[],[]⟩,[]⟩)],[],[]⟩) (exS:=⟨[.bool],[]⟩) Tryz.f44 (memC aS zB) (by kernel_rfl) (by kernel_rfl) fun x=>by kernel_rfl
theorem zin:zl Tryz.prog (KT TE):=
 okC (A:=⟨[YR ay,XP ow,EQ Yx,nH vo,jP Sw,YQ Rx,jQ Gy,gJ Nq,iQ Wt],[],[],0,[],[],[]⟩) (exS:=⟨[.bool],[]⟩) Tryz.f8 (memC znM (memC J5 (memC R7 (memC rO (memC I5 (memC F8 (memC K9 (memC aS (memC J9 zB))))))))) (by kernel_rfl) (by kernel_rfl) fun x=>by kernel_rfl
end Go.Lv.VT
end
