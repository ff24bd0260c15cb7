/- Contracts. -/
import Derived.Test.YtcdeccnjlkkejaaGreatDoorTx
import Derived.Test.YtcdeccnjlkkejaaGreatDoorIp
import Derived.Test.YtcdeccnjlkkejaaGreatDoorLf
import Derived.Test.YtcdeccnjlkkejaaGreatDoorPa
noncomputable section
set_option linter.unusedSimpArgs false
set_option linter.unusedVariables false
namespace Go.Lv.VT
set_option maxRecDepth 100000
open Go.Proofs
theorem okC{con:Con I}{A:Env0 I}{exS:StSh}(f:Go.Func)(hS: ∀c∈A.S,zn Tryz.prog c)(hf:Tryz.prog.funcs[con.f]? =some f)(h:chk con A f=true)(he: ∀x,evF2 A T FK f.ntmps (rsl f) (body f) con exS x=con.F x):zn Tryz.prog con:=
 okC0 mixed ipOK tok rfl rfl hS hf h he
def dU(F:Int->Option Int):Con I:=⟨25,⟨[.int .u8],[]⟩,[],⟨[.int .u8],[]⟩,0,F⟩
def AA(F:List zg->Option (List zb)):Con I:=⟨36,⟨[.sl 49],[]⟩,[],⟨[.sl 44],[]⟩,0,F⟩
def QA(F:Str×Str->Option Bool):Con I:=⟨130,⟨[.str, .str],[]⟩,[],⟨[.bool],[]⟩,0,F⟩
def ZN(F:Str×Str->Option Bool):Con I:=⟨93,⟨[.str, .str],[]⟩,[],⟨[.bool],[]⟩,0,F⟩
def tV(F:za->Option za):Con I:=⟨100,⟨[.optr 0],[(0, .row 133)]⟩,[],⟨[],[(0, .row 133)]⟩,0,F⟩
def zw(F:Int×za->Option Int):Con I:=⟨137,⟨[.optr 0, .int .i64],[(0, .row 133)]⟩,[0],⟨[.int .i64],[]⟩,0,F⟩
def su(F:Int->Option Bool):Con I:=⟨138,⟨[.int .i64],[]⟩,[],⟨[.bool],[]⟩,0,F⟩
def qP(F:za->Option za):Con I:=⟨139,⟨[.optr 0, .clo 138 []],[(0, .row 133)]⟩,[],⟨[],[(0, .row 133)]⟩,0,F⟩
def QT(F:Int->Option (List UInt8)):Con I:=⟨237,⟨[.nilv, .int .i32],[]⟩,[],⟨[.own 0],[(0, .sl 5)]⟩,1,F⟩
def bV(F:Int->Option (List UInt8)):Con I:=⟨210,⟨[.nilv, .int .i32],[]⟩,[],⟨[.own 0],[(0, .sl 5)]⟩,1,F⟩
def xz(F:Int×Int×Int->Option Bool):Con I:=⟨212,⟨[.int .i64, .int .i64, .int .i64],[]⟩,[],⟨[.bool],[]⟩,0,F⟩
def tu(F:Int->Option Bool):Con I:=⟨174,⟨[.int .i64],[]⟩,[],⟨[.bool],[]⟩,0,F⟩
def sJ(F:Int->Option Int):Con I:=⟨211,⟨[.int .i64],[]⟩,[],⟨[.int .i64],[]⟩,0,F⟩
def rV(F:za->Option (za×List UInt8)):Con I:=⟨172,⟨[.optr 0, .nilv],[(0, .row 133)]⟩,[],⟨[.own 1],[(0, .row 133),(1, .sl 5)]⟩,1,F⟩
def QU(F:Int×List UInt8->Option (List UInt8)):Con I:=⟨237,⟨[.own 0, .int .i32],[(0, .sl 5)]⟩,[],⟨[.own 1],[(1, .sl 5)]⟩,1,F⟩
def aV(F:Int×List UInt8->Option (List UInt8)):Con I:=⟨210,⟨[.own 0, .int .i32],[(0, .sl 5)]⟩,[],⟨[.own 1],[(1, .sl 5)]⟩,1,F⟩
def ZV(F:za×List UInt8->Option (za×List UInt8)):Con I:=⟨172,⟨[.optr 0, .own 1],[(0, .row 133),(1, .sl 5)]⟩,[],⟨[.own 2],[(0, .row 133),(2, .sl 5)]⟩,1,F⟩
def kV(F:za->Option (zb×za)):Con I:=⟨140,⟨[.optr 0],[(0, .row 133)]⟩,[],⟨[.val 44],[(0, .row 133)]⟩,0,F⟩
def LK(F:Int->Option Bool):Con I:=⟨173,⟨[.int .i64],[]⟩,[],⟨[.bool],[]⟩,0,F⟩
def aK(F:Int->Option Bool):Con I:=⟨141,⟨[.int .i64],[]⟩,[],⟨[.bool],[]⟩,0,F⟩
def Zx(F:Int×za->Option Bool):Con I:=⟨142,⟨[.optr 0, .int .i64],[(0, .row 133)]⟩,[0],⟨[.bool],[]⟩,0,F⟩
def wK(F:Int×za->Option Bool):Con I:=⟨143,⟨[.optr 0, .int .i64],[(0, .row 133)]⟩,[0],⟨[.bool],[]⟩,0,F⟩
def Qc(F:za->Option (Str×za)):Con I:=⟨144,⟨[.optr 0],[(0, .row 133)]⟩,[],⟨[.str],[(0, .row 133)]⟩,0,F⟩
def lV(F:za->Option Bool):Con I:=⟨145,⟨[.optr 0],[(0, .row 133)]⟩,[0],⟨[.bool],[]⟩,0,F⟩
def mV(F:za->Option za):Con I:=⟨139,⟨[.optr 0, .clo 174 []],[(0, .row 133)]⟩,[],⟨[],[(0, .row 133)]⟩,0,F⟩
def vV(F:za->Option (Bool×za)):Con I:=⟨175,⟨[.optr 0],[(0, .row 133)]⟩,[],⟨[.bool],[(0, .row 133)]⟩,0,F⟩
def dV(F:Str->Option Int):Con I:=⟨176,⟨[.str],[]⟩,[],⟨[.int .i64],[]⟩,0,F⟩
def nV(F:za->Option (zb×za)):Con I:=⟨146,⟨[.optr 0],[(0, .row 133)]⟩,[],⟨[.val 44],[(0, .row 133)]⟩,0,F⟩
def IU(F:Str->Option Str):Con I:=⟨108,⟨[.str],[]⟩,[],⟨[.str],[]⟩,0,F⟩
def NK(F:Str×Str->Option Bool):Con I:=⟨109,⟨[.str, .str],[]⟩,[],⟨[.bool],[]⟩,0,F⟩
def gV(F:za->Option (zb×za)):Con I:=⟨216,⟨[.optr 0],[(0, .row 133)]⟩,[],⟨[.val 44],[(0, .row 133)]⟩,0,F⟩
def fV(F:za->Option (zb×za)):Con I:=⟨177,⟨[.optr 0],[(0, .row 133)]⟩,[],⟨[.val 44],[(0, .row 133)]⟩,0,F⟩
def pV(F:za->Option (zb×za)):Con I:=⟨147,⟨[.optr 0],[(0, .row 133)]⟩,[],⟨[.val 44],[(0, .row 133)]⟩,0,F⟩
def Qz(F:Str×Int->Option Int):Con I:=⟨119,⟨[.str, .int .u8],[]⟩,[],⟨[.int .i64],[]⟩,0,F⟩
def WV(F:za->Option (zb×za)):Con I:=⟨101,⟨[.optr 0],[(0, .row 133)]⟩,[],⟨[.val 44],[(0, .row 133)]⟩,0,F⟩
def RV(F:(zb×Int×Int)×List zb->Option (List zb)):Con I:=⟨70,⟨[.val 44, .int .i64, .int .i64, .optr 0],[(0, .cells 22 [.own 1]),(1, .sl 44)]⟩,[],⟨[],[(0, .cells 22 [.own 2]),(2, .sl 44)]⟩,1,F⟩
def wU(F:Str->Option (Int×List zb)):Con I:=⟨69,⟨[.str, .clo 70 [0]],[(0, .cells 22 [.nilv])]⟩,[],⟨[.int .i64],[(0, .cells 22 [.own 1]),(1, .sl 44)]⟩,1,F⟩
def yz(F:Str->Option (List zb×Int)):Con I:=⟨33,⟨[.str],[]⟩,[],⟨[.sl 44, .int .i64],[]⟩,0,F⟩
def uu(F:Int->Option Int):Con I:=⟨61,⟨[.int .u8],[]⟩,[],⟨[.int .u8],[]⟩,0,F⟩
def eu(F:List zg×Int->Option zH):Con I:=⟨65,⟨[.sl 49, .int .u8],[]⟩,[],⟨[.val 101],[]⟩,0,F⟩
def WK(F:List zg->Option Int):Con I:=⟨32,⟨[.sl 49],[]⟩,[],⟨[.int .i64],[]⟩,0,F⟩
def NA(F:List zg×List zb->Option (List zb)):Con I:=⟨63,⟨[.own 0, .sl 49],[(0, .sl 44)]⟩,[],⟨[.own 1],[(1, .sl 44)]⟩,1,F⟩
def zoo(F:List zg->Option (List zb)):Con I:=⟨63,⟨[.nilv, .sl 49],[]⟩,[],⟨[.own 0],[(0, .sl 44)]⟩,1,F⟩
def uV(F:Str×Str->Option Str):Con I:=⟨197,⟨[.str, .str],[]⟩,[],⟨[.str],[]⟩,0,F⟩
def XV(F:Str×Str->Option Str):Con I:=⟨162,⟨[.str, .str],[]⟩,[],⟨[.str],[]⟩,0,F⟩
def vz(F:Int->Option Bool):Con I:=⟨155,⟨[.int .u8],[]⟩,[],⟨[.bool],[]⟩,0,F⟩
def fK(F:Str->Option Bool):Con I:=⟨122,⟨[.str],[]⟩,[],⟨[.bool],[]⟩,0,F⟩
def PK(F:Int->Option Bool):Con I:=⟨157,⟨[.int .u8],[]⟩,[],⟨[.bool],[]⟩,0,F⟩
def YK(F:Int->Option Bool):Con I:=⟨153,⟨[.int .u8],[]⟩,[],⟨[.bool],[]⟩,0,F⟩
def SV(F:Str×Str->Option Bool):Con I:=⟨154,⟨[.str, .str],[]⟩,[],⟨[.bool],[]⟩,0,F⟩
def vS(F:zb->Option Bool):Con I:=⟨115,⟨[.val 44],[]⟩,[],⟨[.bool],[]⟩,0,F⟩
def iU(F:(Int×Int)×List zb->Option Bool):Con I:=⟨116,⟨[.int .i64, .int .u8, .optr 0],[(0, .row 22)]⟩,[0],⟨[.bool],[]⟩,0,F⟩
def XK(F:List zb->Option Int):Con I:=⟨80,⟨[.sl 44],[]⟩,[],⟨[.int .i64],[]⟩,0,F⟩
def bT(F:List zb->Option Int):Con I:=⟨79,⟨[.sl 44],[]⟩,[],⟨[.int .i64],[]⟩,0,F⟩
def XT(F:Str->Option Int):Con I:=⟨118,⟨[.str],[]⟩,[],⟨[.int .i64],[]⟩,0,F⟩
def oK(F:Int×List UInt8->Option (List UInt8)):Con I:=⟨120,⟨[.own 0, .int .u8],[(0, .sl 5)]⟩,[],⟨[.own 1],[(1, .sl 5)]⟩,1,F⟩
def KU(F:(Str×Int)×List UInt8->Option (List UInt8)):Con I:=⟨117,⟨[.own 0, .str, .int .i64],[(0, .sl 5)]⟩,[],⟨[.own 1],[(1, .sl 5)]⟩,1,F⟩
def WT(F:Unit->Option QK):Con I:=⟨123,⟨[],[]⟩,[],⟨[.val 149],[]⟩,0,F⟩
def OV(F:(Int×Bool)×List UInt8->Option (List UInt8)):Con I:=⟨121,⟨[.own 0, .int .i64, .bool],[(0, .sl 5)]⟩,[],⟨[.own 1],[(1, .sl 5)]⟩,1,F⟩
def JU(F:zb×List UInt8->Option (List UInt8)):Con I:=⟨81,⟨[.own 0, .val 44],[(0, .sl 5)]⟩,[],⟨[.own 1],[(1, .sl 5)]⟩,1,F⟩
def YV(F:List zb×List zb->Option Bool):Con I:=⟨82,⟨[.sl 44, .sl 44],[]⟩,[],⟨[.bool],[]⟩,0,F⟩
def YT(F:List zb->Option (Str×Int)):Con I:=⟨46,⟨[.sl 44],[]⟩,[],⟨[.str, .int .i64],[]⟩,0,F⟩
def tJ(F:List zg->Option (Str×Int)):Con I:=⟨20,⟨[.sl 49],[]⟩,[],⟨[.str, .int .i64],[]⟩,0,F⟩
def UT(F:List zg->Option (Int×Int)):Con I:=⟨26,⟨[.sl 49],[]⟩,[],⟨[.int .i64, .int .i64],[]⟩,0,F⟩
def FU(F:Str->Option (Str×Int×Bool)):Con I:=⟨31,⟨[.str],[]⟩,[],⟨[.str, .int .i64, .bool],[]⟩,0,F⟩
def GU(F:Unit->Option Bool):Con I:=⟨24,⟨[],[]⟩,[],⟨[.bool],[]⟩,0,F⟩
def uz(F:List zg×List zg->Option Bool):Con I:=⟨22,⟨[.sl 49, .sl 49],[]⟩,[],⟨[.bool],[]⟩,0,F⟩
def AU(F:Str->Option Bool):Con I:=⟨102,⟨[.str],[]⟩,[],⟨[.bool],[]⟩,0,F⟩
def qO(F:Int->Option Bool):Con I:=⟨148,⟨[.int .u8],[]⟩,[],⟨[.bool],[]⟩,0,F⟩
def KT(F:Str->Option Bool):Con I:=⟨103,⟨[.str],[]⟩,[],⟨[.bool],[]⟩,0,F⟩
def LA(F:Int->Option Bool):Con I:=⟨178,⟨[.int .u8],[]⟩,[],⟨[.bool],[]⟩,0,F⟩
def Qg(F:Str×Int->Option Int):Con I:=⟨217,⟨[.str, .int .i64],[]⟩,[],⟨[.int .u8],[]⟩,0,F⟩
def MF(F:Str×Int->Option Int):Con I:=⟨179,⟨[.str, .int .i64],[]⟩,[],⟨[.int .i64],[]⟩,0,F⟩
def VK(F:Unit->Option Str):Con I:=⟨244,⟨[],[]⟩,[],⟨[.str],[]⟩,0,F⟩
def rE(F:Int->Option Int):Con I:=⟨150,⟨[.int .u8],[]⟩,[],⟨[.int .u8],[]⟩,0,F⟩
def sS(F:Int->Option Int):Con I:=⟨245,⟨[.int .u8],[]⟩,[],⟨[.int .i64],[]⟩,0,F⟩
def PT(F:Int->Option Str):Con I:=⟨246,⟨[.int .i64],[]⟩,[],⟨[.str],[]⟩,0,F⟩
def QS(F:Str×Int->Option (Str×Int)):Con I:=⟨218,⟨[.str, .int .i64],[]⟩,[],⟨[.str, .int .i64],[]⟩,0,F⟩
def eU(F:Str×Int->Option (zb×Int)):Con I:=⟨180,⟨[.str, .int .i64],[]⟩,[],⟨[.val 44, .int .i64],[]⟩,0,F⟩
def bK(F:Int->Option Bool):Con I:=⟨198,⟨[.int .u8],[]⟩,[],⟨[.bool],[]⟩,0,F⟩
def dK(F:Int->Option Bool):Con I:=⟨163,⟨[.int .u8],[]⟩,[],⟨[.bool],[]⟩,0,F⟩
def QL(F:Str×Int->Option Bool):Con I:=⟨181,⟨[.str, .int .i64],[]⟩,[],⟨[.bool],[]⟩,0,F⟩
def pE(F:Str×Int->Option (Str×Int)):Con I:=⟨182,⟨[.str, .int .i64],[]⟩,[],⟨[.str, .int .i64],[]⟩,0,F⟩
def cK(F:Str×Int->Option Bool):Con I:=⟨183,⟨[.str, .int .i64],[]⟩,[],⟨[.bool],[]⟩,0,F⟩
def MV(F:Str×Int->Option Bool):Con I:=⟨184,⟨[.str, .int .i64],[]⟩,[],⟨[.bool],[]⟩,0,F⟩
def fU(F:Str×Int->Option Int):Con I:=⟨247,⟨[.str, .int .i64],[]⟩,[],⟨[.int .i64],[]⟩,0,F⟩
def UV(F:Str×Int->Option (Int×Bool)):Con I:=⟨219,⟨[.str, .int .i64],[]⟩,[],⟨[.int .i64, .bool],[]⟩,0,F⟩
def jV(F:Str->Option Int):Con I:=⟨220,⟨[.str],[]⟩,[],⟨[.int .i64],[]⟩,0,F⟩
def NV(F:Str×Int->Option (zb×Int)):Con I:=⟨185,⟨[.str, .int .i64],[]⟩,[],⟨[.val 44, .int .i64],[]⟩,0,F⟩
def kS(F:Str×Int×Str->Option Bool):Con I:=⟨186,⟨[.str, .int .i64, .str],[]⟩,[],⟨[.bool],[]⟩,0,F⟩
def EU(F:Str->Option Str):Con I:=⟨105,⟨[.str],[]⟩,[],⟨[.str],[]⟩,0,F⟩
def MK(F:Str×Str->Option Bool):Con I:=⟨72,⟨[.str, .str],[]⟩,[],⟨[.bool],[]⟩,0,F⟩
def lS(F:Str×Int->Option (zb×Int)):Con I:=⟨248,⟨[.str, .int .i64],[]⟩,[],⟨[.val 44, .int .i64],[]⟩,0,F⟩
def iV(F:Int->Option Bool):Con I:=⟨249,⟨[.int .u8],[]⟩,[],⟨[.bool],[]⟩,0,F⟩
def jS(F:Str×Int->Option (zb×Int)):Con I:=⟨221,⟨[.str, .int .i64],[]⟩,[],⟨[.val 44, .int .i64],[]⟩,0,F⟩
def NT(F:Str×Int->Option (zb×Int)):Con I:=⟨187,⟨[.str, .int .i64],[]⟩,[],⟨[.val 44, .int .i64],[]⟩,0,F⟩
def OT(F:Int->Option Int):Con I:=⟨188,⟨[.int .u8],[]⟩,[],⟨[.int .u8],[]⟩,0,F⟩
def nS(F:Str×Int->Option (zb×Int)):Con I:=⟨149,⟨[.str, .int .i64],[]⟩,[],⟨[.val 44, .int .i64],[]⟩,0,F⟩
def CU(F:Int->Option Bool):Con I:=⟨104,⟨[.int .u8],[]⟩,[],⟨[.bool],[]⟩,0,F⟩
def FT(F:zb->Option Bool):Con I:=⟨71,⟨[.val 44],[]⟩,[],⟨[.bool],[]⟩,0,F⟩
def DU(F:List zb->Option Int):Con I:=⟨35,⟨[.sl 44],[]⟩,[],⟨[.int .i64],[]⟩,0,F⟩
def BU(F:List zb->Option Bool):Con I:=⟨34,⟨[.sl 44],[]⟩,[],⟨[.bool],[]⟩,0,F⟩
def VV(F:Str->Option Bool):Con I:=⟨7,⟨[.str],[]⟩,[],⟨[.bool],[]⟩,0,F⟩
def gU(F:List zg->Option (List zb)):Con I:=⟨63,⟨[.nilv, .sl 49],[]⟩,[],⟨[.sl 44],[]⟩,0,F⟩
def VO(F:Str->Option (Str×Int)):Con I:=⟨99,⟨[.str],[]⟩,[],⟨[.str, .int .i64],[]⟩,0,F⟩
theorem wZ:zn Tryz.prog (VO jl):=J5
def xQ(F:Str×Int->Option Int):Con I:=⟨156,⟨[.str, .int .u8],[]⟩,[],⟨[.int .i64],[]⟩,0,F⟩
theorem P5:zn Tryz.prog (xQ Mx):=M6
def kH(F:Str×Str->Option Int):Con I:=⟨136,⟨[.str, .str],[]⟩,[],⟨[.int .i64],[]⟩,0,F⟩
theorem bP:zn Tryz.prog (kH ol):=I5
def UO(F:Str×Str->Option Str):Con I:=⟨213,⟨[.str, .str],[]⟩,[],⟨[.str],[]⟩,0,F⟩
theorem vZ:zn Tryz.prog (UO Rk):=nZ
def CP(F:Str×Str->Option Str):Con I:=⟨160,⟨[.str, .str],[]⟩,[],⟨[.str],[]⟩,0,F⟩
theorem uZ:zn Tryz.prog (CP om):=mZ
def uS(F:Str×Str->Option Int):Con I:=⟨214,⟨[.str, .str],[]⟩,[],⟨[.int .i64],[]⟩,0,F⟩
theorem zrd:zn Tryz.prog (uS QZ):=zqz
def UX(F:Str×Str->Option (Str×Str×Bool)):Con I:=⟨215,⟨[.str, .str],[]⟩,[],⟨[.str, .str, .bool],[]⟩,0,F⟩
theorem zCD:zn Tryz.prog (UX cutF):=zCh
def yQ(F:Int×Int->Option Str):Con I:=⟨161,⟨[.int .i64, .int .i64],[]⟩,[],⟨[.str],[]⟩,0,F⟩
theorem R5:zn Tryz.prog (yQ Np):=O6
def UR(F:(Int×Int)×List UInt8->Option (List UInt8)):Con I:=⟨158,⟨[.own 0, .int .u64, .int .i64],[(0, .sl 5)]⟩,[],⟨[.own 1],[(1, .sl 5)]⟩,1,F⟩
theorem zs3:zn Tryz.prog (UR Bq):=zsB
def VR(F:(Int×Int)×List UInt8->Option (List UInt8)):Con I:=⟨159,⟨[.own 0, .int .i64, .int .i64],[(0, .sl 5)]⟩,[],⟨[.own 1],[(1, .sl 5)]⟩,1,F⟩
theorem zs2:zn Tryz.prog (VR Cq):=zsA
def FD(F:List zb->Option (List zg×Int)):Con I:=⟨16,⟨[.sl 44],[]⟩,[],⟨[.sl 49, .int .i64],[]⟩,0,F⟩
theorem dI:zn Tryz.prog (FD parseF):=H5
theorem zlX:zn Tryz.prog (dU oz):=
 okC (A:=⟨[],[],[],0,[],[(6,⟨[6],⟨[.bool],[]⟩,[3],[],[],0,[],⟨[],[]⟩,[]⟩)],[]⟩) (exS:=⟨[.int .u8],[]⟩) Tryz.f25 zJ (by kernel_rfl) (by kernel_rfl) fun x=>by kernel_rfl
theorem zmm(qy:List zg->Option (List zb))(hs:zn Tryz.prog (AA qy)):zn Tryz.prog (AA (CF qy)):=
 okC (A:=⟨[dU oz,AA qy],[(5,[6]),(9,[3])],[],0,[(3,⟨[3,4],⟨[.own 1001, .int .i64],[(1001, .sl 44)]⟩,[0,2],[],[],0,[3],⟨[.own 1001],[(1001, .sl 44)]⟩,[1001]⟩)],[(4,⟨[3,4],⟨[.own 1103, .int .i64],[(1103, .sl 44)]⟩,[],[],[],0,[],⟨[],[]⟩,[]⟩)],[]⟩) (exS:=⟨[.sl 44],[]⟩) Tryz.f36 (memC zlX (memC hs zJ)) (by kernel_rfl) (by kernel_rfl) fun x=>by kernel_rfl
theorem zlY:zn Tryz.prog (AA qy):=
 zn.recE (I:=I) (P:=Tryz.prog) (f:=36) (inS:=⟨[.sl 49],[]⟩) (cst:=[]) (outS:=⟨[.sl 44],[]⟩) (k:=0) (CF) (by kernel_rfl) (fun S h=>zmm S h)
theorem sV:zn Tryz.prog (QA stringslite_HasPrefix):=
 okC (A:=⟨[],[],[],0,[],[],[]⟩) (exS:=⟨[.bool],[]⟩) Tryz.f130 zJ (by kernel_rfl) (by kernel_rfl) fun x=>by kernel_rfl
theorem qg:zn Tryz.prog (ZN strings_HasPrefix):=
 okC (A:=⟨[QA stringslite_HasPrefix],[],[],0,[],[],[]⟩) (exS:=⟨[.bool],[]⟩) Tryz.f93 (memC sV zJ) (by kernel_rfl) (by kernel_rfl) fun x=>by kernel_rfl
theorem zdJ:zn Tryz.prog (tV Zh):=
 okC (A:=⟨[ZN strings_HasPrefix,kH ol],[],[],1,[(0,⟨[],⟨[],[(0, .row 133)]⟩,[0],[],[0],0,[],⟨[],[(0, .row 133)]⟩,[0]⟩)],[],[]⟩) (exS:=⟨[],[(0, .row 133)]⟩) Tryz.f100 (memC qg (memC bP zJ)) (by kernel_rfl) (by kernel_rfl) fun x=>by kernel_rfl
theorem zx:zn Tryz.prog (zw zf):=
 okC (A:=⟨[],[],[],1,[],[],[]⟩) (exS:=⟨[.int .i64],[]⟩) Tryz.f137 zJ (by kernel_rfl) (by kernel_rfl) fun x=>by kernel_rfl
theorem IA:zn Tryz.prog (su qc):=
 okC (A:=⟨[],[],[],0,[],[],[]⟩) (exS:=⟨[.bool],[]⟩) Tryz.f138 zJ (by kernel_rfl) (by kernel_rfl) fun x=>by kernel_rfl
theorem QR:zn Tryz.prog (qP zR):=
 okC (A:=⟨[zw zf,su qc],[],[],1,[(0,⟨[],⟨[],[(0, .row 133)]⟩,[0,1],[],[0],0,[],⟨[],[(0, .row 133)]⟩,[0]⟩)],[],[]⟩) (exS:=⟨[],[(0, .row 133)]⟩) Tryz.f139 (memC zx (memC IA zJ)) (by kernel_rfl) (by kernel_rfl) fun x=>by kernel_rfl
theorem zcu:zn Tryz.prog (QT ZY):=
 okC (A:=⟨[],[(2,[1]),(4,[9]),(7,[14]),(9,[19])],[],0,[],[(7,⟨[25],⟨[.bool],[]⟩,[0,1,5],[],[],0,[],⟨[],[]⟩,[]⟩)],[]⟩) (exS:=⟨[.own 0],[(0, .sl 5)]⟩) Tryz.f237 zJ (by kernel_rfl) (by kernel_rfl) fun x=>by kernel_rfl
theorem zgr:zn Tryz.prog (bV ZT):=
 okC (A:=⟨[QT ZY],[(2,[3])],[],0,[],[],[]⟩) (exS:=⟨[.own 0],[(0, .sl 5)]⟩) Tryz.f210 (memC zcu zJ) (by kernel_rfl) (by kernel_rfl) fun x=>by kernel_rfl
theorem uE:zn Tryz.prog (xz ZM):=
 okC (A:=⟨[],[],[],0,[],[],[]⟩) (exS:=⟨[.bool],[]⟩) Tryz.f212 zJ (by kernel_rfl) (by kernel_rfl) fun x=>by kernel_rfl
theorem JA:zn Tryz.prog (tu Zr):=
 okC (A:=⟨[xz ZM],[],[],0,[],[],[]⟩) (exS:=⟨[.bool],[]⟩) Tryz.f174 (memC uE zJ) (by kernel_rfl) (by kernel_rfl) fun x=>by kernel_rfl
theorem iT:zn Tryz.prog (sJ bn):=
 okC (A:=⟨[tu Zr,xz ZM],[],[],0,[],[],[]⟩) (exS:=⟨[.int .i64],[]⟩) Tryz.f211 (memC JA (memC uE zJ)) (by kernel_rfl) (by kernel_rfl) fun x=>by kernel_rfl
theorem zdd:zn Tryz.prog (rV ZJ):=
 okC (A:=⟨[zw zf,bV ZT,sJ bn,su qc],[(7,[3])],[],1,[(10,⟨[6,36],⟨[.int .i64, .int .i64],[(0, .row 133)]⟩,[0,1,4],[],[0],0,[6],⟨[.int .i64],[(0, .row 133)]⟩,[0]⟩)],[(17,⟨[6],⟨[.int .i64],[(0, .row 133)]⟩,[1],[],[0],0,[],⟨[],[]⟩,[]⟩),(19,⟨[6],⟨[.int .i64],[]⟩,[],[0],[],0,[],⟨[],[]⟩,[]⟩)],[]⟩) (exS:=⟨[.own 1],[(0, .row 133),(1, .sl 5)]⟩) Tryz.f172 (memC zx (memC zgr (memC iT (memC IA zJ)))) (by kernel_rfl) (by kernel_rfl) fun x=>by kernel_rfl
theorem zcv:zn Tryz.prog (QU ZZ):=
 okC (A:=⟨[],[(2,[1]),(4,[9]),(7,[14]),(9,[19])],[],1,[],[(7,⟨[25],⟨[.bool],[(0, .sl 5)]⟩,[0,1,5],[],[0],0,[],⟨[],[]⟩,[]⟩)],[]⟩) (exS:=⟨[.own 1],[(1, .sl 5)]⟩) Tryz.f237 zJ (by kernel_rfl) (by kernel_rfl) fun x=>by kernel_rfl
theorem zgs:zn Tryz.prog (aV ZU):=
 okC (A:=⟨[QU ZZ],[(2,[3])],[],1,[],[],[]⟩) (exS:=⟨[.own 1],[(1, .sl 5)]⟩) Tryz.f210 (memC zcv zJ) (by kernel_rfl) (by kernel_rfl) fun x=>by kernel_rfl
theorem qM:zn Tryz.prog (ZV zN):=
 okC (A:=⟨[zw zf,aV ZU,sJ bn,su qc],[(7,[3])],[],2,[(10,⟨[6,36],⟨[.int .i64, .int .i64],[(0, .row 133)]⟩,[0,1,4],[1],[0],0,[6],⟨[.int .i64],[(0, .row 133)]⟩,[0]⟩)],[(17,⟨[6],⟨[.int .i64],[(0, .row 133),(1, .sl 5)]⟩,[1],[],[0,1],0,[],⟨[],[]⟩,[]⟩),(19,⟨[6],⟨[.int .i64],[(1, .sl 5)]⟩,[],[0],[1],0,[],⟨[],[]⟩,[]⟩)],[]⟩) (exS:=⟨[.own 2],[(0, .row 133),(2, .sl 5)]⟩) Tryz.f172 (memC zx (memC zgs (memC iT (memC IA zJ)))) (by kernel_rfl) (by kernel_rfl) fun x=>by kernel_rfl
theorem zeE:zn Tryz.prog (kV qh):=
 okC (A:=⟨[zw zf,ZV zN],[(5,[3])],[],1,[(4,⟨[4],⟨[.own 1104],[(0, .row 133),(1, .row 44),(1104, .sl 5)]⟩,[0,2,3],[],[0,1],0,[4],⟨[.own 1104],[(0, .row 133),(1, .row 44),(1104, .sl 5)]⟩,[0,1,1104]⟩)],[],[]⟩) (exS:=⟨[.optr 1],[(0, .row 133),(1, .row 44)]⟩) Tryz.f140 (memC zx (memC qM zJ)) (by kernel_rfl) (by kernel_rfl) fun x=>by kernel_rfl
theorem lU:zn Tryz.prog (LK Oq):=
 okC (A:=⟨[xz ZM],[],[],0,[],[],[]⟩) (exS:=⟨[.bool],[]⟩) Tryz.f173 (memC uE zJ) (by kernel_rfl) (by kernel_rfl) fun x=>by kernel_rfl
theorem xU:zn Tryz.prog (aK wu):=
 okC (A:=⟨[LK Oq,tu Zr],[],[],0,[],[],[]⟩) (exS:=⟨[.bool],[]⟩) Tryz.f141 (memC lU (memC JA zJ)) (by kernel_rfl) (by kernel_rfl) fun x=>by kernel_rfl
theorem ZH:zn Tryz.prog (Zx zt):=
 okC (A:=⟨[zw zf],[],[],1,[],[],[]⟩) (exS:=⟨[.bool],[]⟩) Tryz.f142 (memC zx zJ) (by kernel_rfl) (by kernel_rfl) fun x=>by kernel_rfl
theorem oV:zn Tryz.prog (wK zD):=
 okC (A:=⟨[zw zf,LK Oq,Zx zt],[],[],1,[],[],[]⟩) (exS:=⟨[.bool],[]⟩) Tryz.f143 (memC zx (memC lU (memC ZH zJ))) (by kernel_rfl) (by kernel_rfl) fun x=>by kernel_rfl
theorem Q5:zn Tryz.prog (Qc zL):=
 okC (A:=⟨[zw zf,aK wu,Zx zt,ZV zN],[(5,[3])],[],1,[(2,⟨[3],⟨[.own 1105],[(0, .row 133),(1105, .sl 5)]⟩,[0],[],[0],0,[],⟨[],[]⟩,[]⟩)],[],[]⟩) (exS:=⟨[.str],[(0, .row 133)]⟩) Tryz.f144 (memC zx (memC xU (memC ZH (memC qM zJ)))) (by kernel_rfl) (by kernel_rfl) fun x=>by kernel_rfl
theorem zeD:zn Tryz.prog (lV Zt):=
 okC (A:=⟨[zw zf,tu Zr],[],[],1,[],[(5,⟨[3],⟨[.int .i64],[]⟩,[0],[],[],0,[],⟨[],[]⟩,[]⟩),(7,⟨[3],⟨[.int .i64],[]⟩,[],[],[],0,[],⟨[],[]⟩,[]⟩)],[]⟩) (exS:=⟨[.bool],[]⟩) Tryz.f145 (memC zx (memC JA zJ)) (by kernel_rfl) (by kernel_rfl) fun x=>by kernel_rfl
theorem zd6:zn Tryz.prog (mV zO):=
 okC (A:=⟨[zw zf,tu Zr],[],[],1,[(0,⟨[],⟨[],[(0, .row 133)]⟩,[0,1],[],[0],0,[],⟨[],[(0, .row 133)]⟩,[0]⟩)],[],[]⟩) (exS:=⟨[],[(0, .row 133)]⟩) Tryz.f139 (memC zx (memC JA zJ)) (by kernel_rfl) (by kernel_rfl) fun x=>by kernel_rfl
theorem zd4:zn Tryz.prog (vV Z6):=
 okC (A:=⟨[zw zf,mV zO,tu Zr],[],[],1,[],[(4,⟨[],⟨[],[(0, .row 133)]⟩,[0],[],[0],0,[],⟨[],[]⟩,[]⟩),(10,⟨[4],⟨[.bool],[(0, .row 133)]⟩,[],[],[0],0,[],⟨[],[]⟩,[]⟩),(15,⟨[4,5],⟨[.bool, .int .i64],[(0, .row 133)]⟩,[],[],[0],0,[],⟨[],[]⟩,[]⟩),(19,⟨[4],⟨[.bool],[(0, .row 133)]⟩,[],[],[0],0,[],⟨[],[]⟩,[]⟩)],[]⟩) (exS:=⟨[.bool],[(0, .row 133)]⟩) Tryz.f175 (memC zx (memC zd6 (memC JA zJ))) (by kernel_rfl) (by kernel_rfl) fun x=>by kernel_rfl
theorem zgq:zn Tryz.prog (dV ZR):=
 okC (A:=⟨[UO Rk,uS QZ,UX cutF],[],[],0,[(8,⟨[6,31],⟨[.int .i64, .int .i64],[]⟩,[0,2,3,4,5,29,30],[0],[],0,[6],⟨[.int .i64],[]⟩,[]⟩),(22,⟨[12,81],⟨[.int .i64, .int .i64],[]⟩,[4,79,80],[0],[],2,[12],⟨[.int .i64],[]⟩,[]⟩),(26,⟨[4,12],⟨[.int .i64, .int .i64],[]⟩,[],[],[],4,[12],⟨[.int .i64],[]⟩,[]⟩)],[(14,⟨[0,4,6],⟨[.str, .int .i64, .int .i64],[]⟩,[3,5],[],[],0,[],⟨[],[]⟩,[]⟩),(15,⟨[0,4],⟨[.str, .int .i64],[]⟩,[3],[],[],0,[],⟨[],[]⟩,[]⟩),(20,⟨[0,4],⟨[.str, .int .i64],[]⟩,[],[],[],0,[],⟨[],[]⟩,[]⟩),(31,⟨[12],⟨[.int .i64],[]⟩,[],[],[],0,[],⟨[],[]⟩,[]⟩)],[]⟩) (exS:=⟨[.int .i64],[]⟩) Tryz.f176 (memC vZ (memC zrd (memC zCD zJ))) (by kernel_rfl) (by kernel_rfl) fun x=>by kernel_rfl
theorem zd5:zn Tryz.prog (nV ZE):=
 okC (A:=⟨[vV Z6,dV ZR,wK zD,Qc zL,zw zf],[],[],1,[],[(9,⟨[],⟨[],[(0, .row 133),(1, .row 44),(2, .row 44)]⟩,[2,5],[],[0,1,2],0,[],⟨[],[]⟩,[]⟩)],[]⟩) (exS:=⟨[.optr 1],[(0, .row 133),(1, .row 44)]⟩) Tryz.f146 (memC zd4 (memC zgq (memC oV (memC Q5 (memC zx zJ))))) (by kernel_rfl) (by kernel_rfl) fun x=>by kernel_rfl
theorem zmW:zn Tryz.prog (IU ku):=
 okC (A:=⟨[],[],[],0,[(3,⟨[10],⟨[.int .i64],[(0, .sl 5)]⟩,[2,3,8,9],[],[0],0,[],⟨[],[(0, .sl 5)]⟩,[0]⟩)],[(7,⟨[10],⟨[.int .i64],[(0, .sl 5)]⟩,[],[],[0],0,[],⟨[],[]⟩,[]⟩)],[]⟩) (exS:=⟨[.str],[]⟩) Tryz.f108 zJ (by kernel_rfl) (by kernel_rfl) fun x=>by kernel_rfl
theorem nU:zn Tryz.prog (NK Sq):=
 okC (A:=⟨[IU ku],[],[],0,[],[],[]⟩) (exS:=⟨[.bool],[]⟩) Tryz.f109 (memC zmW zJ) (by kernel_rfl) (by kernel_rfl) fun x=>by kernel_rfl
theorem zgo:zn Tryz.prog (gV ZQ):=
 okC (A:=⟨[zw zf,Zx zt,rV ZJ],[],[],1,[(1,⟨[],⟨[],[(0, .row 133),(1, .row 44)]⟩,[0,2],[],[0,1],0,[],⟨[],[]⟩,[]⟩)],[],[]⟩) (exS:=⟨[.optr 1],[(0, .row 133),(1, .row 44)]⟩) Tryz.f216 (memC zx (memC ZH (memC zdd zJ))) (by kernel_rfl) (by kernel_rfl) fun x=>by kernel_rfl
theorem zgp:zn Tryz.prog (fV Qr):=
 okC (A:=⟨[qP zR,zw zf,su qc,gV ZQ,xz ZM,Zx zt,ZV zN],[(18,[3])],[],1,[(3,⟨[3],⟨[.own 1106],[(0, .row 133),(1, .row 44),(1106, .sl 5)]⟩,[0,2],[],[0,1],0,[],⟨[],[]⟩,[]⟩)],[(10,⟨[3,4],⟨[.own 1106, .int .i64],[(0, .row 133),(1, .row 44),(1106, .sl 5)]⟩,[],[],[0,1,1106],0,[],⟨[],[]⟩,[]⟩)],[]⟩) (exS:=⟨[.optr 1],[(0, .row 133),(1, .row 44)]⟩) Tryz.f177 (memC QR (memC zx (memC IA (memC zgo (memC uE (memC ZH (memC qM zJ))))))) (by kernel_rfl) (by kernel_rfl) fun x=>by kernel_rfl
theorem zeW:zn Tryz.prog (pV Zz):=
 okC (A:=⟨[Qc zL,zw zf,NK Sq,qP zR,fV Qr],[],[],1,[],[(11,⟨[],⟨[],[(0, .row 133),(1, .row 44)]⟩,[2,3],[],[0,1],0,[],⟨[],[]⟩,[]⟩)],[]⟩) (exS:=⟨[.optr 1],[(0, .row 133),(1, .row 44)]⟩) Tryz.f147 (memC Q5 (memC zx (memC nU (memC QR (memC zgp zJ))))) (by kernel_rfl) (by kernel_rfl) fun x=>by kernel_rfl
theorem vK:zn Tryz.prog (Qz strings_IndexByte):=
 okC (A:=⟨[xQ Mx],[],[],0,[],[],[]⟩) (exS:=⟨[.int .i64],[]⟩) Tryz.f119 (memC P5 zJ) (by kernel_rfl) (by kernel_rfl) fun x=>by kernel_rfl
theorem zfz:zn Tryz.prog (WV Z9):=
 okC (A:=⟨[zw zf,su qc,qP zR,kV qh,aK wu,Zx zt,wK zD,Qc zL,lV Zt,nV ZE,ZN strings_HasPrefix,pV Zz,Qz strings_IndexByte],[],[],1,[],[],[]⟩) (exS:=⟨[.optr 1],[(0, .row 133),(1, .row 44)]⟩) Tryz.f101 (memC zx (memC IA (memC QR (memC zeE (memC xU (memC ZH (memC oV (memC Q5 (memC zeD (memC zd5 (memC qg (memC zeW (memC vK zJ))))))))))))) (by kernel_rfl) (by kernel_rfl) fun x=>by kernel_rfl
theorem zg3:zn Tryz.prog (RV QI):=
 okC (A:=⟨[],[(1,[2])],[],2,[],[],[]⟩) (exS:=⟨[],[(0, .cells 22 [.own 2]),(2, .sl 44)]⟩) Tryz.f70 zJ (by kernel_rfl) (by kernel_rfl) fun x=>by kernel_rfl
theorem zlZ:zn Tryz.prog (wU Yz):=
 okC (A:=⟨[VO jl,tV Zh,WV Z9,RV QI],[],[],1,[(7,⟨[7],⟨[.int .i64],[(0, .cells 22 [.own 1107]),(1107, .sl 44),(1, .row 133)]⟩,[0,1,6],[],[0,1],0,[],⟨[],[(0, .cells 22 [.own 1107]),(1107, .sl 44),(1, .row 133)]⟩,[0,1,1107]⟩)],[],[]⟩) (exS:=⟨[.int .i64],[(0, .cells 22 [.own 1]),(1, .sl 44)]⟩) Tryz.f69 (memC wZ (memC zdJ (memC zfz (memC zg3 zJ)))) (by kernel_rfl) (by kernel_rfl) fun x=>by kernel_rfl
theorem vE:zn Tryz.prog (yz ZL):=
 okC (A:=⟨[wU Yz],[],[],0,[],[],[]⟩) (exS:=⟨[.sl 44, .int .i64],[]⟩) Tryz.f33 (memC zlZ zJ) (by kernel_rfl) (by kernel_rfl) fun x=>by kernel_rfl
theorem KA:zn Tryz.prog (uu qa):=
 okC (A:=⟨[],[],[],0,[],[(7,⟨[6],⟨[.bool],[]⟩,[0],[],[],0,[],⟨[],[]⟩,[]⟩)],[]⟩) (exS:=⟨[.int .u8],[]⟩) Tryz.f61 zJ (by kernel_rfl) (by kernel_rfl) fun x=>by kernel_rfl
theorem zrN(QG:List zg×Int->Option zH)(hs:zn Tryz.prog (eu QG)):zn Tryz.prog (eu (WE QG)):=
 okC (A:=⟨[uu qa,eu QG],[],[],0,[(3,⟨[12],⟨[.int .i64],[(1, .row 101)]⟩,[1,4,5,10,11],[0],[1],0,[],⟨[],[(1, .row 101)]⟩,[1]⟩)],[(9,⟨[],⟨[],[(1, .row 101)]⟩,[7,8,12],[2],[1],0,[],⟨[],[]⟩,[]⟩),(12,⟨[12],⟨[.int .i64],[(1, .row 101)]⟩,[],[],[1],0,[],⟨[],[]⟩,[]⟩)],[]⟩) (exS:=⟨[.optr 0],[(0, .row 101)]⟩) Tryz.f65 (memC KA (memC hs zJ)) (by kernel_rfl) (by kernel_rfl) fun x=>by kernel_rfl
theorem jT:zn Tryz.prog (eu QG):=
 zn.recE (I:=I) (P:=Tryz.prog) (f:=65) (inS:=⟨[.sl 49, .int .u8],[]⟩) (cst:=[]) (outS:=⟨[.val 101],[]⟩) (k:=0) (WE) (by kernel_rfl) (fun S h=>zrN S h)
theorem WU:zn Tryz.prog (WK Mq):=
 okC (A:=⟨[eu QG],[],[],0,[],[],[]⟩) (exS:=⟨[.int .i64],[]⟩) Tryz.f32 (memC jT zJ) (by kernel_rfl) (by kernel_rfl) fun x=>by kernel_rfl
theorem zm9(qX:List zg×List zb->Option (List zb))(hs:zn Tryz.prog (NA qX)):zn Tryz.prog (NA (nE qX)):=
 okC (A:=⟨[uu qa,NA qX],[(4,[3]),(7,[6])],[],1,[(2,⟨[0,10],⟨[.own 1108, .int .i64],[(1108, .sl 44)]⟩,[4,8,9],[],[],0,[0],⟨[.own 1108],[(1108, .sl 44)]⟩,[1108]⟩)],[(8,⟨[0,10],⟨[.own 1210, .int .i64],[(1210, .sl 44)]⟩,[],[],[],0,[],⟨[],[]⟩,[]⟩)],[]⟩) (exS:=⟨[.own 1],[(1, .sl 44)]⟩) Tryz.f63 (memC KA (memC hs zJ)) (by kernel_rfl) (by kernel_rfl) fun x=>by kernel_rfl
theorem zm0:zn Tryz.prog (NA qX):=
 zn.recE (I:=I) (P:=Tryz.prog) (f:=63) (inS:=⟨[.own 0, .sl 49],[(0, .sl 44)]⟩) (cst:=[]) (outS:=⟨[.own 1],[(1, .sl 44)]⟩) (k:=1) (nE) (by kernel_rfl) (fun S h=>zm9 S h)
theorem zmZ:zn Tryz.prog (zoo gu):=
 okC (A:=⟨[uu qa,NA qX],[(4,[3]),(7,[6])],[],0,[(2,⟨[0,10],⟨[.own 1212, .int .i64],[(1212, .sl 44)]⟩,[4,8,9],[],[],0,[0],⟨[.own 1212],[(1212, .sl 44)]⟩,[1212]⟩)],[(8,⟨[0,10],⟨[.own 1314, .int .i64],[(1314, .sl 44)]⟩,[],[],[],0,[],⟨[],[]⟩,[]⟩)],[]⟩) (exS:=⟨[.own 0],[(0, .sl 44)]⟩) Tryz.f63 (memC KA (memC zm0 zJ)) (by kernel_rfl) (by kernel_rfl) fun x=>by kernel_rfl
theorem zlT:zn Tryz.prog (gU gu):=U1 ipOK (by kernel_rfl) zmZ
theorem zdI:zn Tryz.prog (uV stringslite_TrimPrefix):=
 okC (A:=⟨[QA stringslite_HasPrefix],[],[],0,[],[],[]⟩) (exS:=⟨[.str],[]⟩) Tryz.f197 (memC sV zJ) (by kernel_rfl) (by kernel_rfl) fun x=>by kernel_rfl
theorem zfx:zn Tryz.prog (XV strings_TrimPrefix):=
 okC (A:=⟨[uV stringslite_TrimPrefix],[],[],0,[],[],[]⟩) (exS:=⟨[.str],[]⟩) Tryz.f162 (memC zdI zJ) (by kernel_rfl) (by kernel_rfl) fun x=>by kernel_rfl
theorem mE:zn Tryz.prog (vz qz):=
 okC (A:=⟨[],[],[],0,[],[],[]⟩) (exS:=⟨[.bool],[]⟩) Tryz.f155 zJ (by kernel_rfl) (by kernel_rfl) fun x=>by kernel_rfl
theorem DV:zn Tryz.prog (fK QY):=
 okC (A:=⟨[XV strings_TrimPrefix,vz qz],[],[],0,[],[],[]⟩) (exS:=⟨[.bool],[]⟩) Tryz.f122 (memC zfx (memC mE zJ)) (by kernel_rfl) (by kernel_rfl) fun x=>by kernel_rfl
theorem oU:zn Tryz.prog (PK nu):=
 okC (A:=⟨[],[],[],0,[],[],[]⟩) (exS:=⟨[.bool],[]⟩) Tryz.f157 zJ (by kernel_rfl) (by kernel_rfl) fun x=>by kernel_rfl
theorem YU:zn Tryz.prog (YK Bo):=
 okC (A:=⟨[PK nu,vz qz],[],[],0,[],[],[]⟩) (exS:=⟨[.bool],[]⟩) Tryz.f153 (memC oU (memC mE zJ)) (by kernel_rfl) (by kernel_rfl) fun x=>by kernel_rfl
theorem zg2:zn Tryz.prog (SV strings_Contains):=
 okC (A:=⟨[kH ol],[],[],0,[],[],[]⟩) (exS:=⟨[.bool],[]⟩) Tryz.f154 (memC bP zJ) (by kernel_rfl) (by kernel_rfl) fun x=>by kernel_rfl
theorem zrc:zn Tryz.prog (vS jy):=
 okC (A:=⟨[Qz strings_IndexByte,fK QY,ZN strings_HasPrefix,YK Bo,SV strings_Contains],[],[],0,[],[(8,⟨[3,4,5,6,7,25],⟨[.bool, .bool, .bool, .bool, .bool, .bool],[]⟩,[1,16],[],[],0,[],⟨[],[]⟩,[]⟩),(14,⟨[3,4,5,6,7,63],⟨[.bool, .bool, .bool, .bool, .bool, .bool],[]⟩,[],[],[],0,[],⟨[],[]⟩,[]⟩),(22,⟨[4,5,6,7,94],⟨[.bool, .bool, .bool, .bool, .bool],[]⟩,[3],[],[],0,[],⟨[],[]⟩,[]⟩),(24,⟨[3,4,5,6,7],⟨[.bool, .bool, .bool, .bool, .bool],[]⟩,[1],[0],[],0,[],⟨[],[]⟩,[]⟩)],[]⟩) (exS:=⟨[.bool],[]⟩) Tryz.f115 (memC vK (memC DV (memC qg (memC YU (memC zg2 zJ))))) (by kernel_rfl) (by kernel_rfl) fun x=>by kernel_rfl
theorem zlS:zn Tryz.prog (iU ZK):=
 okC (A:=⟨[],[],[],1,[],[],[]⟩) (exS:=⟨[.bool],[]⟩) Tryz.f116 zJ (by kernel_rfl) (by kernel_rfl) fun x=>by kernel_rfl
theorem XU:zn Tryz.prog (XK QM):=
 okC (A:=⟨[iU ZK,NK Sq],[],[],0,[],[(11,⟨[5],⟨[.int .i64],[]⟩,[3],[0],[],0,[],⟨[],[]⟩,[]⟩)],[]⟩) (exS:=⟨[.int .i64],[]⟩) Tryz.f80 (memC zlS (memC nU zJ)) (by kernel_rfl) (by kernel_rfl) fun x=>by kernel_rfl
theorem zo4:zn Tryz.prog (bT Vz):=
 okC (A:=⟨[vS jy,XK QM],[],[],0,[(4,⟨[10],⟨[.int .i64],[]⟩,[0,8,9],[],[],0,[],⟨[],[]⟩,[]⟩)],[],[]⟩) (exS:=⟨[.int .i64],[]⟩) Tryz.f79 (memC zrc (memC XU zJ)) (by kernel_rfl) (by kernel_rfl) fun x=>by kernel_rfl
theorem zo6:zn Tryz.prog (XT Lm):=
 okC (A:=⟨[ZN strings_HasPrefix],[],[],0,[],[],[]⟩) (exS:=⟨[.int .i64],[]⟩) Tryz.f118 (memC qg zJ) (by kernel_rfl) (by kernel_rfl) fun x=>by kernel_rfl
theorem KV:zn Tryz.prog (oK ZW):=
 okC (A:=⟨[vz qz,PK nu,UR Bq],[(2,[2]),(3,[1]),(5,[1])],[],1,[],[],[]⟩) (exS:=⟨[.own 1],[(1, .sl 5)]⟩) Tryz.f120 (memC mE (memC oU (memC zs3 zJ))) (by kernel_rfl) (by kernel_rfl) fun x=>by kernel_rfl
theorem zmU:zn Tryz.prog (KU qB):=
 okC (A:=⟨[YK Bo,vz qz,oK ZW],[(6,[2])],[],1,[(2,⟨[0,11],⟨[.own 1420, .int .i64],[(1420, .sl 5)]⟩,[1,2,6,10],[],[],0,[0],⟨[.own 1420],[(1420, .sl 5)]⟩,[1420]⟩)],[(8,⟨[0,11],⟨[.own 1522, .int .i64],[(1522, .sl 5)]⟩,[],[],[],0,[],⟨[],[]⟩,[]⟩)],[]⟩) (exS:=⟨[.own 1],[(1, .sl 5)]⟩) Tryz.f117 (memC YU (memC mE (memC KV zJ))) (by kernel_rfl) (by kernel_rfl) fun x=>by kernel_rfl
theorem zo7:zn Tryz.prog (WT Uz):=
 okC (A:=⟨[],[],[],0,[],[],[]⟩) (exS:=⟨[.optr 0],[(0, .row 149)]⟩) Tryz.f123 zJ (by kernel_rfl) (by kernel_rfl) fun x=>by kernel_rfl
theorem zjY:zn Tryz.prog (OV QC):=
 okC (A:=⟨[VR Cq,yQ Np,CP om],[(2,[1]),(6,[1])],[],1,[],[(3,⟨[0,1],⟨[.own 2044, .int .i64],[(2044, .sl 5)]⟩,[2],[],[],0,[],⟨[],[]⟩,[]⟩),(9,⟨[0],⟨[.own 2147],[(2147, .sl 5)]⟩,[],[],[],0,[],⟨[],[]⟩,[]⟩)],[]⟩) (exS:=⟨[.own 1],[(1, .sl 5)]⟩) Tryz.f121 (memC zs2 (memC R5 (memC uZ zJ))) (by kernel_rfl) (by kernel_rfl) fun x=>by kernel_rfl
theorem zmV:zn Tryz.prog (JU lu):=
 okC (A:=⟨[XT Lm,KU qB,Qz strings_IndexByte,oK ZW,OV QC,fK QY,ZN strings_HasPrefix,WT Uz],[(5,[7]),(7,[1]),(12,[1]),(14,[1]),(20,[2]),(22,[1]),(30,[2]),(32,[1]),(38,[4])],[],1,[(16,⟨[0,67],⟨[.own 1837, .int .i64],[(1837, .sl 5)]⟩,[3,4,65,66],[1,4],[],1,[0],⟨[.own 1837],[(1837, .sl 5)]⟩,[1837]⟩),(26,⟨[0,93],⟨[.own 1941, .int .i64],[(1941, .sl 5)]⟩,[3,4,91,92],[1,3],[],3,[0],⟨[.own 1941],[(1941, .sl 5)]⟩,[1941]⟩)],[(12,⟨[5],⟨[.int .i64],[(0, .sl 5)]⟩,[0,3],[1],[0],0,[],⟨[],[]⟩,[]⟩),(21,⟨[0,67],⟨[.own 1939, .int .i64],[(1939, .sl 5)]⟩,[],[],[],0,[],⟨[],[]⟩,[]⟩),(31,⟨[0,93],⟨[.own 2043, .int .i64],[(2043, .sl 5)]⟩,[],[],[],0,[],⟨[],[]⟩,[]⟩)],[]⟩) (exS:=⟨[.own 1],[(1, .sl 5)]⟩) Tryz.f81 (memC zo6 (memC zmU (memC vK (memC KV (memC zjY (memC DV (memC qg (memC zo7 zJ)))))))) (by kernel_rfl) (by kernel_rfl) fun x=>by kernel_rfl
theorem zfw:zn Tryz.prog (YV Z8):=
 okC (A:=⟨[],[],[],0,[(4,⟨[13],⟨[.int .i64],[]⟩,[0,1,12],[],[],0,[],⟨[],[]⟩,[]⟩)],[],[]⟩) (exS:=⟨[.bool],[]⟩) Tryz.f82 zJ (by kernel_rfl) (by kernel_rfl) fun x=>by kernel_rfl
theorem zo5:zn Tryz.prog (YT bu):=
 okC (A:=⟨[bT Vz,XK QM,JU lu,yz ZL,YV Z8],[(24,[5])],[],0,[(7,⟨[5,6,7],⟨[.own 2254, .own 2255, .int .i64],[(2254, .sl 5),(2255, .sl 119)]⟩,[0],[],[],0,[5],⟨[.own 2254],[(2254, .sl 5)]⟩,[2254]⟩),(11,⟨[9,36],⟨[.own 1835, .int .i64],[(1835, .sl 5)]⟩,[5,6,7,8,34,35],[2254,2255],[],2,[9],⟨[.own 1835],[(1835, .sl 5)]⟩,[1835]⟩)],[(17,⟨[5,6,7,9],⟨[.own 2254, .own 2255, .int .i64, .own 2357],[(2254, .sl 5),(2255, .sl 119),(2357, .sl 5)]⟩,[8],[],[2254,2255],0,[],⟨[],[]⟩,[]⟩),(21,⟨[5,6,7],⟨[.own 2254, .own 2255, .int .i64],[(2254, .sl 5),(2255, .sl 119),(2358, .row 119)]⟩,[9,12],[2357],[2254,2255,2358],0,[],⟨[],[]⟩,[]⟩),(24,⟨[5,6,7],⟨[.own 2462, .own 2255, .int .i64],[(2255, .sl 119),(2462, .sl 5)]⟩,[],[2358],[2255],0,[],⟨[],[]⟩,[]⟩)],[]⟩) (exS:=⟨[.str, .int .i64],[]⟩) Tryz.f46 (memC zo4 (memC XU (memC zmV (memC vE (memC zfw zJ))))) (by kernel_rfl) (by kernel_rfl) fun x=>by kernel_rfl
theorem kT:zn Tryz.prog (tJ xn):=
 okC (A:=⟨[WK Mq,gU gu,YT bu],[],[],0,[],[],[]⟩) (exS:=⟨[.str, .int .i64],[]⟩) Tryz.f20 (memC WU (memC zlT (memC zo5 zJ))) (by kernel_rfl) (by kernel_rfl) fun x=>by kernel_rfl
theorem zo8:zn Tryz.prog (UT au):=
 okC (A:=⟨[WK Mq,eu QG],[],[],0,[],[],[]⟩) (exS:=⟨[.int .i64, .int .i64],[]⟩) Tryz.f26 (memC WU (memC jT zJ)) (by kernel_rfl) (by kernel_rfl) fun x=>by kernel_rfl
theorem zmY:zn Tryz.prog (FU IE):=
 okC (A:=⟨[yz ZL,FD parseF,tJ xn,UT au],[],[],0,[],[],[]⟩) (exS:=⟨[.str, .int .i64, .bool],[]⟩) Tryz.f31 (memC vE (memC dI (memC kT (memC zo8 zJ)))) (by kernel_rfl) (by kernel_rfl) fun x=>by kernel_rfl
theorem zmX:zn Tryz.prog (GU Q3):=
 okC (A:=⟨[FU IE,yz ZL,FD parseF],[],[],0,[],[],[]⟩) (exS:=⟨[.bool],[]⟩) Tryz.f24 (memC zmY (memC vE (memC dI zJ))) (by kernel_rfl) (by kernel_rfl) fun x=>by kernel_rfl
theorem zpA(QQ:List zg×List zg->Option Bool)(hs:zn Tryz.prog (uz QQ)):zn Tryz.prog (uz (XE QQ)):=
 okC (A:=⟨[uz QQ],[],[],0,[(4,⟨[5],⟨[.int .i64],[]⟩,[0,1],[],[],0,[],⟨[],[]⟩,[]⟩)],[],[]⟩) (exS:=⟨[.bool],[]⟩) Tryz.f22 (memC hs zJ) (by kernel_rfl) (by kernel_rfl) fun x=>by kernel_rfl
theorem zpe:zn Tryz.prog (uz QQ):=
 zn.recE (I:=I) (P:=Tryz.prog) (f:=22) (inS:=⟨[.sl 49, .sl 49],[]⟩) (cst:=[]) (outS:=⟨[.bool],[]⟩) (k:=0) (XE) (by kernel_rfl) (fun S h=>zpA S h)
theorem zm5:zn Tryz.prog (AU yn):=
 okC (A:=⟨[],[],[],0,[(2,⟨[3],⟨[.int .i64],[]⟩,[0],[],[],0,[],⟨[],[]⟩,[]⟩)],[],[]⟩) (exS:=⟨[.bool],[]⟩) Tryz.f102 zJ (by kernel_rfl) (by kernel_rfl) fun x=>by kernel_rfl
theorem qZ:zn Tryz.prog (qO zX):=
 okC (A:=⟨[],[],[],0,[],[],[]⟩) (exS:=⟨[.bool],[]⟩) Tryz.f148 zJ (by kernel_rfl) (by kernel_rfl) fun x=>by kernel_rfl
theorem zpc:zn Tryz.prog (KT Kz):=
 okC (A:=⟨[qO zX],[],[],0,[],[],[]⟩) (exS:=⟨[.bool],[]⟩) Tryz.f103 (memC qZ zJ) (by kernel_rfl) (by kernel_rfl) fun x=>by kernel_rfl
theorem EF:zn Tryz.prog (LA qG):=
 okC (A:=⟨[],[],[],0,[],[],[]⟩) (exS:=⟨[.bool],[]⟩) Tryz.f178 zJ (by kernel_rfl) (by kernel_rfl) fun x=>by kernel_rfl
theorem qY:zn Tryz.prog (Qg zU):=
 okC (A:=⟨[],[],[],0,[],[],[]⟩) (exS:=⟨[.int .u8],[]⟩) Tryz.f217 zJ (by kernel_rfl) (by kernel_rfl) fun x=>by kernel_rfl
theorem sK:zn Tryz.prog (MF qx):=
 okC (A:=⟨[Qg zU,LA qG],[],[],0,[(1,⟨[1],⟨[.int .i64],[]⟩,[0,4],[],[],0,[1],⟨[.int .i64],[]⟩,[]⟩)],[],[]⟩) (exS:=⟨[.int .i64],[]⟩) Tryz.f179 (memC qY (memC EF zJ)) (by kernel_rfl) (by kernel_rfl) fun x=>by kernel_rfl
theorem VU:zn Tryz.prog (VK Kq):=
 okC (A:=⟨[],[(1,[0])],[],0,[],[],[]⟩) (exS:=⟨[.str],[]⟩) Tryz.f244 zJ (by kernel_rfl) (by kernel_rfl) fun x=>by kernel_rfl
theorem jK:zn Tryz.prog (rE qF):=
 okC (A:=⟨[],[],[],0,[],[],[]⟩) (exS:=⟨[.int .u8],[]⟩) Tryz.f150 zJ (by kernel_rfl) (by kernel_rfl) fun x=>by kernel_rfl
theorem zrf:zn Tryz.prog (sS Iq):=
 okC (A:=⟨[qO zX,rE qF],[],[],0,[],[],[]⟩) (exS:=⟨[.int .i64],[]⟩) Tryz.f245 (memC qZ (memC jK zJ)) (by kernel_rfl) (by kernel_rfl) fun x=>by kernel_rfl
theorem zo9:zn Tryz.prog (PT Xz):=
 okC (A:=⟨[VK Kq],[(4,[2]),(6,[8]),(8,[13]),(9,[18])],[],0,[],[],[]⟩) (exS:=⟨[.str],[]⟩) Tryz.f246 (memC VU zJ) (by kernel_rfl) (by kernel_rfl) fun x=>by kernel_rfl
theorem NF:zn Tryz.prog (QS ZI):=
 okC (A:=⟨[VK Kq,sS Iq,Qg zU,LA qG,PT Xz],[],[],0,[(7,⟨[6,7],⟨[.int .i64, .int .i64],[]⟩,[0,1,4,5],[],[],0,[6,7],⟨[.int .i64, .int .i64],[]⟩,[]⟩)],[(12,⟨[7],⟨[.int .i64],[]⟩,[6],[],[],0,[],⟨[],[]⟩,[]⟩)],[]⟩) (exS:=⟨[.str, .int .i64],[]⟩) Tryz.f218 (memC VU (memC zrf (memC qY (memC EF (memC zo9 zJ))))) (by kernel_rfl) (by kernel_rfl) fun x=>by kernel_rfl
theorem zlW:zn Tryz.prog (eU pz):=
 okC (A:=⟨[QS ZI],[],[],0,[(4,⟨[1],⟨[.int .i64],[(0, .row 44),(1, .row 44)]⟩,[0,4,6,7],[],[0,1],0,[1],⟨[.int .i64],[(0, .row 44),(1, .row 44)]⟩,[0,1]⟩)],[],[]⟩) (exS:=⟨[.optr 0, .int .i64],[(0, .row 44)]⟩) Tryz.f180 (memC NF zJ) (by kernel_rfl) (by kernel_rfl) fun x=>by kernel_rfl
theorem yU:zn Tryz.prog (bK Qv):=
 okC (A:=⟨[rE qF],[],[],0,[],[],[]⟩) (exS:=⟨[.bool],[]⟩) Tryz.f198 (memC jK zJ) (by kernel_rfl) (by kernel_rfl) fun x=>by kernel_rfl
theorem BV:zn Tryz.prog (dK Q7):=
 okC (A:=⟨[bK Qv,qO zX],[],[],0,[],[],[]⟩) (exS:=⟨[.bool],[]⟩) Tryz.f163 (memC yU (memC qZ zJ)) (by kernel_rfl) (by kernel_rfl) fun x=>by kernel_rfl
theorem Q4:zn Tryz.prog (QL Zu):=
 okC (A:=⟨[Qg zU],[],[],0,[],[],[]⟩) (exS:=⟨[.bool],[]⟩) Tryz.f181 (memC qY zJ) (by kernel_rfl) (by kernel_rfl) fun x=>by kernel_rfl
theorem iK:zn Tryz.prog (pE Qa):=
 okC (A:=⟨[dK Q7,QL Zu,QS ZI],[],[],0,[(2,⟨[1,6],⟨[.int .i64, .str],[]⟩,[0],[],[],0,[],⟨[],[]⟩,[]⟩)],[],[]⟩) (exS:=⟨[.str, .int .i64],[]⟩) Tryz.f182 (memC BV (memC Q4 (memC NF zJ))) (by kernel_rfl) (by kernel_rfl) fun x=>by kernel_rfl
theorem AV:zn Tryz.prog (cK qU):=
 okC (A:=⟨[Qg zU,bK Qv,QL Zu],[],[],0,[],[],[]⟩) (exS:=⟨[.bool],[]⟩) Tryz.f183 (memC qY (memC yU (memC Q4 zJ))) (by kernel_rfl) (by kernel_rfl) fun x=>by kernel_rfl
theorem ziY:zn Tryz.prog (MV GA):=
 okC (A:=⟨[Qg zU,qO zX],[],[],0,[],[(4,⟨[1],⟨[.int .i64],[]⟩,[0],[],[],0,[],⟨[],[]⟩,[]⟩),(6,⟨[1],⟨[.int .i64],[]⟩,[],[],[],0,[],⟨[],[]⟩,[]⟩)],[]⟩) (exS:=⟨[.bool],[]⟩) Tryz.f184 (memC qY (memC qZ zJ)) (by kernel_rfl) (by kernel_rfl) fun x=>by kernel_rfl
theorem zlV:zn Tryz.prog (fU Q9):=
 okC (A:=⟨[Qg zU,qO zX],[],[],0,[(1,⟨[1],⟨[.int .i64],[]⟩,[0,4],[],[],0,[1],⟨[.int .i64],[]⟩,[]⟩)],[],[]⟩) (exS:=⟨[.int .i64],[]⟩) Tryz.f247 (memC qY (memC qZ zJ)) (by kernel_rfl) (by kernel_rfl) fun x=>by kernel_rfl
theorem zh8:zn Tryz.prog (UV Q8):=
 okC (A:=⟨[Qg zU,fU Q9,qO zX],[],[],0,[],[(4,⟨[1],⟨[.int .i64],[]⟩,[0],[],[],0,[],⟨[],[]⟩,[]⟩),(9,⟨[1,7],⟨[.int .i64, .bool],[]⟩,[],[],[],0,[],⟨[],[]⟩,[]⟩),(15,⟨[1,7,9],⟨[.int .i64, .bool, .int .i64],[]⟩,[],[],[],0,[],⟨[],[]⟩,[]⟩),(18,⟨[1,7],⟨[.int .i64, .bool],[]⟩,[],[],[],0,[],⟨[],[]⟩,[]⟩)],[]⟩) (exS:=⟨[.int .i64, .bool],[]⟩) Tryz.f219 (memC qY (memC zlV (memC qZ zJ))) (by kernel_rfl) (by kernel_rfl) fun x=>by kernel_rfl
theorem zgm:zn Tryz.prog (jV Qn):=
 okC (A:=⟨[Qg zU,qO zX],[],[],0,[(5,⟨[3,5],⟨[.str, .int .i64],[]⟩,[4],[],[],0,[3,5],⟨[.str, .int .i64],[]⟩,[]⟩),(10,⟨[3,4,5],⟨[.str, .int .i64, .int .i64],[]⟩,[],[],[],2,[3,4,5],⟨[.str, .int .i64, .int .i64],[]⟩,[]⟩),(20,⟨[5,8],⟨[.int .i64, .int .i64],[]⟩,[4],[],[],4,[8],⟨[.int .i64],[]⟩,[]⟩),(28,⟨[9,10],⟨[.int .i64, .int .i64],[]⟩,[4],[],[],6,[9],⟨[.int .i64],[]⟩,[]⟩),(31,⟨[4,9],⟨[.int .i64, .int .i64],[]⟩,[],[],[],8,[9],⟨[.int .i64],[]⟩,[]⟩)],[(5,⟨[3,4,5],⟨[.str, .int .i64, .int .i64],[]⟩,[0,6],[],[],0,[],⟨[],[]⟩,[]⟩),(14,⟨[3,4,5],⟨[.str, .int .i64, .int .i64],[]⟩,[],[],[],0,[],⟨[],[]⟩,[]⟩),(19,⟨[4,5],⟨[.int .i64, .int .i64],[]⟩,[3,7],[],[],0,[],⟨[],[]⟩,[]⟩),(25,⟨[4,8],⟨[.int .i64, .int .i64],[]⟩,[],[],[],0,[],⟨[],[]⟩,[]⟩),(26,⟨[4],⟨[.int .i64],[]⟩,[3],[],[],0,[],⟨[],[]⟩,[]⟩)],[]⟩) (exS:=⟨[.int .i64],[]⟩) Tryz.f220 (memC qY (memC qZ zJ)) (by kernel_rfl) (by kernel_rfl) fun x=>by kernel_rfl
theorem zjZ:zn Tryz.prog (NV gz):=
 okC (A:=⟨[UV Q8,jV Qn,cK qU,pE Qa,Qg zU],[],[],0,[],[(9,⟨[6],⟨[.int .i64],[(0, .row 44),(1, .row 44)]⟩,[4,8],[],[0,1],0,[],⟨[],[]⟩,[]⟩)],[]⟩) (exS:=⟨[.optr 0, .int .i64],[(0, .row 44)]⟩) Tryz.f185 (memC zh8 (memC zgm (memC AV (memC iK (memC qY zJ))))) (by kernel_rfl) (by kernel_rfl) fun x=>by kernel_rfl
theorem zri:zn Tryz.prog (kS Iu):=
 okC (A:=⟨[],[],[],0,[],[],[]⟩) (exS:=⟨[.bool],[]⟩) Tryz.f186 zJ (by kernel_rfl) (by kernel_rfl) fun x=>by kernel_rfl
theorem zm1:zn Tryz.prog (EU Q6):=
 okC (A:=⟨[rE qF],[],[],0,[(3,⟨[4],⟨[.int .i64],[(0, .sl 5)]⟩,[2,3],[],[0],0,[],⟨[],[(0, .sl 5)]⟩,[0]⟩)],[],[]⟩) (exS:=⟨[.str],[]⟩) Tryz.f105 (memC jK zJ) (by kernel_rfl) (by kernel_rfl) fun x=>by kernel_rfl
theorem mU:zn Tryz.prog (MK qE):=
 okC (A:=⟨[EU Q6],[],[],0,[],[],[]⟩) (exS:=⟨[.bool],[]⟩) Tryz.f72 (memC zm1 zJ) (by kernel_rfl) (by kernel_rfl) fun x=>by kernel_rfl
theorem zrh:zn Tryz.prog (lS Nu):=
 okC (A:=⟨[QL Zu,QS ZI],[],[],0,[(1,⟨[1],⟨[.int .i64],[]⟩,[0,4,5],[0],[],0,[1],⟨[.int .i64],[]⟩,[]⟩)],[],[]⟩) (exS:=⟨[.optr 0, .int .i64],[(0, .row 44)]⟩) Tryz.f248 (memC Q4 (memC NF zJ)) (by kernel_rfl) (by kernel_rfl) fun x=>by kernel_rfl
theorem zgn:zn Tryz.prog (iV Qo):=
 okC (A:=⟨[],[],[],0,[],[],[]⟩) (exS:=⟨[.bool],[]⟩) Tryz.f249 zJ (by kernel_rfl) (by kernel_rfl) fun x=>by kernel_rfl
theorem zrj:zn Tryz.prog (jS Dz):=
 okC (A:=⟨[MF qx,LA qG,lS Nu,iV Qo,QL Zu,QS ZI],[],[],0,[(3,⟨[1],⟨[.int .i64],[(0, .row 44),(1, .row 44)]⟩,[0,4,6],[],[0,1],0,[1],⟨[.int .i64],[(0, .row 44),(1, .row 44)]⟩,[0,1]⟩)],[],[]⟩) (exS:=⟨[.optr 0, .int .i64],[(0, .row 44)]⟩) Tryz.f221 (memC sK (memC EF (memC zrh (memC zgn (memC Q4 (memC NF zJ)))))) (by kernel_rfl) (by kernel_rfl) fun x=>by kernel_rfl
theorem zpb:zn Tryz.prog (NT Nz):=
 okC (A:=⟨[pE Qa,Qg zU,MK qE,MF qx,jS Dz],[],[],0,[],[(8,⟨[],⟨[],[(0, .row 44)]⟩,[4,6,7],[],[0],0,[],⟨[],[]⟩,[]⟩)],[]⟩) (exS:=⟨[.optr 0, .int .i64],[(0, .row 44)]⟩) Tryz.f187 (memC iK (memC qY (memC mU (memC sK (memC zrj zJ))))) (by kernel_rfl) (by kernel_rfl) fun x=>by kernel_rfl
theorem zpa:zn Tryz.prog (OT Vu):=
 okC (A:=⟨[],[],[],0,[],[],[]⟩) (exS:=⟨[.int .u8],[]⟩) Tryz.f188 zJ (by kernel_rfl) (by kernel_rfl) fun x=>by kernel_rfl
theorem zrg:zn Tryz.prog (nS Ez):=
 okC (A:=⟨[LA qG,MF qx,eU pz,dK Q7,QL Zu,pE Qa,cK qU,MV GA,NV gz,kS Iu,NT Nz,OT Vu],[],[],0,[],[],[]⟩) (exS:=⟨[.optr 0, .int .i64],[(0, .row 44)]⟩) Tryz.f149 (memC EF (memC sK (memC zlW (memC BV (memC Q4 (memC iK (memC AV (memC ziY (memC zjZ (memC zri (memC zpb (memC zpa zJ)))))))))))) (by kernel_rfl) (by kernel_rfl) fun x=>by kernel_rfl
theorem zm3:zn Tryz.prog (CU qH):=
 okC (A:=⟨[nS Ez],[(1,[1])],[],0,[],[],[]⟩) (exS:=⟨[.bool],[]⟩) Tryz.f104 (memC zrg zJ) (by kernel_rfl) (by kernel_rfl) fun x=>by kernel_rfl
theorem zpd:zn Tryz.prog (FT Jz):=
 okC (A:=⟨[AU yn,KT Kz,CU qH],[],[],0,[],[(6,⟨[8],⟨[.bool],[(1, .row 44)]⟩,[1,3,7],[0],[1],0,[],⟨[],[]⟩,[]⟩),(13,⟨[56],⟨[.bool],[(1, .row 44)]⟩,[],[],[1],0,[],⟨[],[]⟩,[]⟩),(21,⟨[90],⟨[.bool],[(1, .row 44)]⟩,[],[],[1],0,[],⟨[],[]⟩,[]⟩),(26,⟨[148],⟨[.bool],[]⟩,[],[1],[],0,[],⟨[],[]⟩,[]⟩)],[]⟩) (exS:=⟨[.bool],[]⟩) Tryz.f71 (memC zm5 (memC zpc (memC zm3 zJ))) (by kernel_rfl) (by kernel_rfl) fun x=>by kernel_rfl
theorem zm2:zn Tryz.prog (DU fu):=
 okC (A:=⟨[FT Jz,MK qE],[],[],0,[(4,⟨[3],⟨[.int .i64],[]⟩,[0],[],[],0,[],⟨[],[]⟩,[]⟩)],[(12,⟨[4],⟨[.int .i64],[]⟩,[3],[],[],0,[],⟨[],[]⟩,[]⟩),(14,⟨[],⟨[],[]⟩,[3],[],[],0,[],⟨[],[]⟩,[]⟩)],[]⟩) (exS:=⟨[.int .i64],[]⟩) Tryz.f35 (memC zpd (memC mU zJ)) (by kernel_rfl) (by kernel_rfl) fun x=>by kernel_rfl
theorem zm4:zn Tryz.prog (BU cz):=
 okC (A:=⟨[],[],[],0,[(5,⟨[3,4],⟨[.int .i64, .int .i64],[]⟩,[0],[],[],0,[],⟨[],[]⟩,[]⟩)],[],[]⟩) (exS:=⟨[.bool],[]⟩) Tryz.f34 zJ (by kernel_rfl) (by kernel_rfl) fun x=>by kernel_rfl
theorem zh6:zn Tryz.prog (VV yE):=
 okC (A:=⟨[GU Q3,yz ZL,FD parseF,BU cz,AA qy,DU fu,tJ xn,uz QQ],[],[],0,[],[],[]⟩) (exS:=⟨[.bool],[]⟩) Tryz.f7 (memC zmX (memC vE (memC dI (memC zm4 (memC zlY (memC zm2 (memC kT (memC zpe zJ)))))))) (by kernel_rfl) (by kernel_rfl) fun x=>by kernel_rfl
end Go.Lv.VT
end
