/- Contracts. -/
import Derived.Test.YtcdeccnjlkkejaaGreatDoorTx
import Derived.Test.YtcdeccnjlkkejaaGreatDoorIp
import Derived.Test.YtcdeccnjlkkejaaGreatDoorLf
import Derived.Test.YtcdeccnjlkkejaaGreatDoorPa
noncomputable section
set_option linter.unusedSimpArgs false
set_option linter.unusedVariables false
namespace Go.Lv.VT
set_option maxRecDepth 100000
open Go.Proofs
theorem okC{con:Con I}{A:Env0 I}{exS:StSh}(f:Go.Func)(hS: ∀c∈A.S,zt Tryz.prog c)(hf:Tryz.prog.funcs[con.f]? =some f)(h:chk con A f=true)(he: ∀x,evF2 A T FK f.ntmps (rsl f) (body f) con exS x=con.F x):zt Tryz.prog con:=
 okC0 mixed ipOK tok rfl rfl hS hf h he
def Qm(F:Str×Str->Option Bool):Con I:=⟨130,⟨[.str, .str],[]⟩,[],⟨[.bool],[]⟩,0,F⟩
def Zf(F:Str×Str->Option Bool):Con I:=⟨93,⟨[.str, .str],[]⟩,[],⟨[.bool],[]⟩,0,F⟩
def eP(F:za->Option za):Con I:=⟨100,⟨[.optr 0],[(0, .row 133)]⟩,[],⟨[],[(0, .row 133)]⟩,0,F⟩
def zB(F:Int×za->Option Int):Con I:=⟨137,⟨[.optr 0, .int .i64],[(0, .row 133)]⟩,[0],⟨[.int .i64],[]⟩,0,F⟩
def QY(F:Int->Option Bool):Con I:=⟨138,⟨[.int .i64],[]⟩,[],⟨[.bool],[]⟩,0,F⟩
def qP(F:za->Option za):Con I:=⟨139,⟨[.optr 0, .clo 138 []],[(0, .row 133)]⟩,[],⟨[],[(0, .row 133)]⟩,0,F⟩
def QM(F:Int->Option (List UInt8)):Con I:=⟨237,⟨[.nilv, .int .i32],[]⟩,[],⟨[.own 0],[(0, .sl 5)]⟩,1,F⟩
def NP(F:Int->Option (List UInt8)):Con I:=⟨210,⟨[.nilv, .int .i32],[]⟩,[],⟨[.own 0],[(0, .sl 5)]⟩,1,F⟩
def Du(F:Int×Int×Int->Option Bool):Con I:=⟨212,⟨[.int .i64, .int .i64, .int .i64],[]⟩,[],⟨[.bool],[]⟩,0,F⟩
def QX(F:Int->Option Bool):Con I:=⟨174,⟨[.int .i64],[]⟩,[],⟨[.bool],[]⟩,0,F⟩
def VE(F:Int->Option Int):Con I:=⟨211,⟨[.int .i64],[]⟩,[],⟨[.int .i64],[]⟩,0,F⟩
def XP(F:za->Option (za×List UInt8)):Con I:=⟨172,⟨[.optr 0, .nilv],[(0, .row 133)]⟩,[],⟨[.own 1],[(0, .row 133),(1, .sl 5)]⟩,1,F⟩
def QN(F:Int×List UInt8->Option (List UInt8)):Con I:=⟨237,⟨[.own 0, .int .i32],[(0, .sl 5)]⟩,[],⟨[.own 1],[(1, .sl 5)]⟩,1,F⟩
def MP(F:Int×List UInt8->Option (List UInt8)):Con I:=⟨210,⟨[.own 0, .int .i32],[(0, .sl 5)]⟩,[],⟨[.own 1],[(1, .sl 5)]⟩,1,F⟩
def Z9(F:za×List UInt8->Option (za×List UInt8)):Con I:=⟨172,⟨[.optr 0, .own 1],[(0, .row 133),(1, .sl 5)]⟩,[],⟨[.own 2],[(0, .row 133),(2, .sl 5)]⟩,1,F⟩
def gP(F:za->Option (ze×za)):Con I:=⟨140,⟨[.optr 0],[(0, .row 133)]⟩,[],⟨[.val 44],[(0, .row 133)]⟩,0,F⟩
def vE(F:Int->Option Bool):Con I:=⟨173,⟨[.int .i64],[]⟩,[],⟨[.bool],[]⟩,0,F⟩
def bF(F:Int->Option Bool):Con I:=⟨141,⟨[.int .i64],[]⟩,[],⟨[.bool],[]⟩,0,F⟩
def ZE(F:Int×za->Option Bool):Con I:=⟨142,⟨[.optr 0, .int .i64],[(0, .row 133)]⟩,[0],⟨[.bool],[]⟩,0,F⟩
def Q8(F:Int×za->Option Bool):Con I:=⟨143,⟨[.optr 0, .int .i64],[(0, .row 133)]⟩,[0],⟨[.bool],[]⟩,0,F⟩
def Qb(F:za->Option (Str×za)):Con I:=⟨144,⟨[.optr 0],[(0, .row 133)]⟩,[],⟨[.str],[(0, .row 133)]⟩,0,F⟩
def iP(F:za->Option Bool):Con I:=⟨145,⟨[.optr 0],[(0, .row 133)]⟩,[0],⟨[.bool],[]⟩,0,F⟩
def YP(F:za->Option za):Con I:=⟨139,⟨[.optr 0, .clo 174 []],[(0, .row 133)]⟩,[],⟨[],[(0, .row 133)]⟩,0,F⟩
def bP(F:za->Option (Bool×za)):Con I:=⟨175,⟨[.optr 0],[(0, .row 133)]⟩,[],⟨[.bool],[(0, .row 133)]⟩,0,F⟩
def OP(F:Str->Option Int):Con I:=⟨176,⟨[.str],[]⟩,[],⟨[.int .i64],[]⟩,0,F⟩
def aP(F:za->Option (ze×za)):Con I:=⟨146,⟨[.optr 0],[(0, .row 133)]⟩,[],⟨[.val 44],[(0, .row 133)]⟩,0,F⟩
def Vy(F:Str->Option Str):Con I:=⟨108,⟨[.str],[]⟩,[],⟨[.str],[]⟩,0,F⟩
def Wy(F:Str×Str->Option Bool):Con I:=⟨109,⟨[.str, .str],[]⟩,[],⟨[.bool],[]⟩,0,F⟩
def RP(F:za->Option (ze×za)):Con I:=⟨216,⟨[.optr 0],[(0, .row 133)]⟩,[],⟨[.val 44],[(0, .row 133)]⟩,0,F⟩
def PP(F:za->Option (ze×za)):Con I:=⟨177,⟨[.optr 0],[(0, .row 133)]⟩,[],⟨[.val 44],[(0, .row 133)]⟩,0,F⟩
def FP(F:za->Option (ze×za)):Con I:=⟨147,⟨[.optr 0],[(0, .row 133)]⟩,[],⟨[.val 44],[(0, .row 133)]⟩,0,F⟩
def ZZ(F:Str×Int->Option Int):Con I:=⟨119,⟨[.str, .int .u8],[]⟩,[],⟨[.int .i64],[]⟩,0,F⟩
def IP(F:za->Option (ze×za)):Con I:=⟨101,⟨[.optr 0],[(0, .row 133)]⟩,[],⟨[.val 44],[(0, .row 133)]⟩,0,F⟩
def CP(F:(ze×Int×Int)×List ze->Option (List ze)):Con I:=⟨70,⟨[.val 44, .int .i64, .int .i64, .optr 0],[(0, .cells 22 [.own 1]),(1, .sl 44)]⟩,[],⟨[],[(0, .cells 22 [.own 2]),(2, .sl 44)]⟩,1,F⟩
def fO(F:Str->Option (Int×List ze)):Con I:=⟨69,⟨[.str, .clo 70 [0]],[(0, .cells 22 [.nilv])]⟩,[],⟨[.int .i64],[(0, .cells 22 [.own 1]),(1, .sl 44)]⟩,1,F⟩
def eF(F:Str->Option (List ze×Int)):Con I:=⟨33,⟨[.str],[]⟩,[],⟨[.sl 44, .int .i64],[]⟩,0,F⟩
def Uy(F:Int->Option Int):Con I:=⟨61,⟨[.int .u8],[]⟩,[],⟨[.int .u8],[]⟩,0,F⟩
def yt(F:List zb×Int->Option zw):Con I:=⟨65,⟨[.sl 49, .int .u8],[]⟩,[],⟨[.val 101],[]⟩,0,F⟩
def Vp(F:List zb->Option Int):Con I:=⟨32,⟨[.sl 49],[]⟩,[],⟨[.int .i64],[]⟩,0,F⟩
def LP(F:List zb->Option (List zb)):Con I:=⟨98,⟨[.sl 49],[]⟩,[],⟨[.own 0],[(0, .sl 49)]⟩,1,F⟩
def gp(F:List zb->Option (List zb)):Con I:=⟨67,⟨[.sl 49],[]⟩,[],⟨[.sl 49],[]⟩,0,F⟩
def tN(F:List zb×Int->Option (List (List zb)×Int)):Con I:=⟨28,⟨[.sl 49, .int .u8],[]⟩,[],⟨[.sl 23, .int .i64],[]⟩,0,F⟩
def Uk(F:zb×Int->Option Bool):Con I:=⟨91,⟨[.val 49, .int .u8],[]⟩,[],⟨[.bool],[]⟩,0,F⟩
def MN(F:List zb->Option (List zb)):Con I:=⟨107,⟨[.sl 49],[]⟩,[],⟨[.sl 49],[]⟩,0,F⟩
def XN(F:List zb->Option (List zb)):Con I:=⟨106,⟨[.sl 49],[]⟩,[],⟨[.sl 49],[]⟩,0,F⟩
def WE(F:zb->Option Bool):Con I:=⟨92,⟨[.val 49],[]⟩,[],⟨[.bool],[]⟩,0,F⟩
def JO(F:Int×List zb->Option Bool):Con I:=⟨68,⟨[.int .i64, .optr 0],[(0, .row 23)]⟩,[0],⟨[.bool],[]⟩,0,F⟩
def SN(F:List zb->Option (List zb×Int)):Con I:=⟨29,⟨[.sl 49],[]⟩,[],⟨[.sl 49, .int .i64],[]⟩,0,F⟩
def Hu(F:List zb×List ze->Option (List ze)):Con I:=⟨63,⟨[.own 0, .sl 49],[(0, .sl 44)]⟩,[],⟨[.own 1],[(1, .sl 44)]⟩,1,F⟩
def FO(F:List zb->Option (List ze)):Con I:=⟨63,⟨[.nilv, .sl 49],[]⟩,[],⟨[.own 0],[(0, .sl 44)]⟩,1,F⟩
def UN(F:List zb->Option (List ze×Int)):Con I:=⟨18,⟨[.sl 49],[]⟩,[],⟨[.sl 44, .int .i64],[]⟩,0,F⟩
def YN(F:Str->Option Bool):Con I:=⟨87,⟨[.str],[]⟩,[],⟨[.bool],[]⟩,0,F⟩
def fP(F:Str×Str->Option Str):Con I:=⟨197,⟨[.str, .str],[]⟩,[],⟨[.str],[]⟩,0,F⟩
def JP(F:Str×Str->Option Str):Con I:=⟨162,⟨[.str, .str],[]⟩,[],⟨[.str],[]⟩,0,F⟩
def Wp(F:Int->Option Bool):Con I:=⟨155,⟨[.int .u8],[]⟩,[],⟨[.bool],[]⟩,0,F⟩
def fF(F:Str->Option Bool):Con I:=⟨122,⟨[.str],[]⟩,[],⟨[.bool],[]⟩,0,F⟩
def xE(F:Int->Option Bool):Con I:=⟨157,⟨[.int .u8],[]⟩,[],⟨[.bool],[]⟩,0,F⟩
def Iy(F:Int->Option Bool):Con I:=⟨153,⟨[.int .u8],[]⟩,[],⟨[.bool],[]⟩,0,F⟩
def BP(F:Str×Str->Option Bool):Con I:=⟨154,⟨[.str, .str],[]⟩,[],⟨[.bool],[]⟩,0,F⟩
def JN(F:ze->Option Bool):Con I:=⟨115,⟨[.val 44],[]⟩,[],⟨[.bool],[]⟩,0,F⟩
def jO(F:(Int×Int)×List ze->Option Bool):Con I:=⟨116,⟨[.int .i64, .int .u8, .optr 0],[(0, .row 22)]⟩,[0],⟨[.bool],[]⟩,0,F⟩
def LF(F:List ze->Option Int):Con I:=⟨80,⟨[.sl 44],[]⟩,[],⟨[.int .i64],[]⟩,0,F⟩
def NF(F:List ze->Option Int):Con I:=⟨79,⟨[.sl 44],[]⟩,[],⟨[.int .i64],[]⟩,0,F⟩
def xO(F:zb->Option Bool):Con I:=⟨128,⟨[.val 49],[]⟩,[],⟨[.bool],[]⟩,0,F⟩
def VP(F:List zb->Option Int):Con I:=⟨129,⟨[.sl 49, .clo 128 []],[]⟩,[],⟨[.int .i64],[]⟩,0,F⟩
def QL(F:List zb->Option Bool):Con I:=⟨89,⟨[.sl 49, .clo 128 []],[]⟩,[],⟨[.bool],[]⟩,0,F⟩
def qy(F:List zb->Option Bool):Con I:=⟨88,⟨[.sl 49],[]⟩,[],⟨[.bool],[]⟩,0,F⟩
def mO(F:zb->Option Bool):Con I:=⟨90,⟨[.val 49],[]⟩,[],⟨[.bool],[]⟩,0,F⟩
def Q7(F:List zb->Option Int):Con I:=⟨129,⟨[.sl 49, .clo 90 []],[]⟩,[],⟨[.int .i64],[]⟩,0,F⟩
def Qt(F:List zb->Option Bool):Con I:=⟨89,⟨[.sl 49, .clo 90 []],[]⟩,[],⟨[.bool],[]⟩,0,F⟩
def Jy(F:zT->Option Int):Con I:=⟨52,⟨[.val 66],[]⟩,[],⟨[.int .i64],[]⟩,0,F⟩
def uD(F:List zb->Option (zT×Bool)):Con I:=⟨73,⟨[.sl 49],[]⟩,[],⟨[.val 66, .bool],[]⟩,0,F⟩
def tL(F:List zb->Option (Int×List zT)):Con I:=⟨39,⟨[.sl 49],[]⟩,[],⟨[.own 0, .int .i64],[(0, .sl 66)]⟩,1,F⟩
def YE(F:Str->Option (Int×List zT)):Con I:=⟨41,⟨[.str],[]⟩,[],⟨[.own 0, .int .i64],[(0, .sl 66)]⟩,1,F⟩
def MF(F:Str->Option Int):Con I:=⟨118,⟨[.str],[]⟩,[],⟨[.int .i64],[]⟩,0,F⟩
def ay(F:Int×List UInt8->Option (List UInt8)):Con I:=⟨120,⟨[.own 0, .int .u8],[(0, .sl 5)]⟩,[],⟨[.own 1],[(1, .sl 5)]⟩,1,F⟩
def pO(F:Str×Int->Option (List UInt8)):Con I:=⟨117,⟨[.nilv, .str, .int .i64],[]⟩,[],⟨[.own 0],[(0, .sl 5)]⟩,1,F⟩
def KN(F:Str->Option (Str×Int)):Con I:=⟨83,⟨[.str],[]⟩,[],⟨[.str, .int .i64],[]⟩,0,F⟩
def oO(F:(Str×Int)×List UInt8->Option (List UInt8)):Con I:=⟨117,⟨[.own 0, .str, .int .i64],[(0, .sl 5)]⟩,[],⟨[.own 1],[(1, .sl 5)]⟩,1,F⟩
def VN(F:Unit->Option QA):Con I:=⟨123,⟨[],[]⟩,[],⟨[.val 149],[]⟩,0,F⟩
def yO(F:(Int×Bool)×List UInt8->Option (List UInt8)):Con I:=⟨121,⟨[.own 0, .int .i64, .bool],[(0, .sl 5)]⟩,[],⟨[.own 1],[(1, .sl 5)]⟩,1,F⟩
def nO(F:ze×List UInt8->Option (List UInt8)):Con I:=⟨81,⟨[.own 0, .val 44],[(0, .sl 5)]⟩,[],⟨[.own 1],[(1, .sl 5)]⟩,1,F⟩
def KP(F:List ze×List ze->Option Bool):Con I:=⟨82,⟨[.sl 44, .sl 44],[]⟩,[],⟨[.bool],[]⟩,0,F⟩
def WN(F:List ze->Option (Str×Int)):Con I:=⟨46,⟨[.sl 44],[]⟩,[],⟨[.str, .int .i64],[]⟩,0,F⟩
def TN(F:List zb->Option (Str×Int)):Con I:=⟨20,⟨[.sl 49],[]⟩,[],⟨[.str, .int .i64],[]⟩,0,F⟩
def XE(F:zT->Option (Str×Int)):Con I:=⟨48,⟨[.val 66],[]⟩,[],⟨[.str, .int .i64],[]⟩,0,F⟩
def bE(F:List zT->Option (Str×Int)):Con I:=⟨50,⟨[.sl 66],[]⟩,[],⟨[.str, .int .i64],[]⟩,0,F⟩
def wE(F:Str×Str×Int->Option Bool):Con I:=⟨55,⟨[.str, .str, .int .i64],[]⟩,[],⟨[.bool],[]⟩,0,F⟩
def uN(F:Int->Option (List zb)):Con I:=⟨56,⟨[.int .i64],[]⟩,[],⟨[.sl 49],[]⟩,0,F⟩
def BN(F:List zb->Option (zT×Bool×Int)):Con I:=⟨37,⟨[.sl 49],[]⟩,[],⟨[.val 66, .bool, .int .i64],[]⟩,0,F⟩
def KO(F:Unit->Option Bool):Con I:=⟨54,⟨[],[]⟩,[],⟨[.bool],[]⟩,0,F⟩
def V6(F:Unit->Option Bool):Con I:=⟨12,⟨[],[]⟩,[],⟨[.bool],[]⟩,0,F⟩
def iO(F:List zb->Option (List ze)):Con I:=⟨63,⟨[.nilv, .sl 49],[]⟩,[],⟨[.sl 44],[]⟩,0,F⟩
def mK(F:Str->Option (Str×Int)):Con I:=⟨99,⟨[.str],[]⟩,[],⟨[.str, .int .i64],[]⟩,0,F⟩
theorem IX:zt Tryz.prog (mK Ki):=EX
def nL(F:Str×Int->Option Int):Con I:=⟨156,⟨[.str, .int .u8],[]⟩,[],⟨[.int .i64],[]⟩,0,F⟩
theorem WY:zt Tryz.prog (nL Yr):=mY
def tC(F:Str×Str->Option Int):Con I:=⟨136,⟨[.str, .str],[]⟩,[],⟨[.int .i64],[]⟩,0,F⟩
theorem BL:zt Tryz.prog (tC Ji):=DX
def jK(F:Str×Str->Option Str):Con I:=⟨213,⟨[.str, .str],[]⟩,[],⟨[.str],[]⟩,0,F⟩
theorem WX:zt Tryz.prog (jK Ih):=BX
def uJ(F:Str×Str->Option Str):Con I:=⟨160,⟨[.str, .str],[]⟩,[],⟨[.str],[]⟩,0,F⟩
theorem VX:zt Tryz.prog (uJ Wj):=AX
def GN(F:Str×Str->Option Int):Con I:=⟨214,⟨[.str, .str],[]⟩,[],⟨[.int .i64],[]⟩,0,F⟩
theorem gZ:zt Tryz.prog (GN Qv):=I1
def JH(F:Str×Str->Option (Str×Str×Bool)):Con I:=⟨215,⟨[.str, .str],[]⟩,[],⟨[.str, .str, .bool],[]⟩,0,F⟩
theorem aS:zt Tryz.prog (JH cutF):=vR
def oL(F:Int×Int->Option Str):Con I:=⟨161,⟨[.int .i64, .int .i64],[]⟩,[],⟨[.str],[]⟩,0,F⟩
theorem XY:zt Tryz.prog (oL Vl):=nY
def DN(F:(Int×Int)×List UInt8->Option (List UInt8)):Con I:=⟨158,⟨[.own 0, .int .u64, .int .i64],[(0, .sl 5)]⟩,[],⟨[.own 1],[(1, .sl 5)]⟩,1,F⟩
theorem VZ:zt Tryz.prog (DN jl):=MZ
def EN(F:(Int×Int)×List UInt8->Option (List UInt8)):Con I:=⟨159,⟨[.own 0, .int .i64, .int .i64],[(0, .sl 5)]⟩,[],⟨[.own 1],[(1, .sl 5)]⟩,1,F⟩
theorem WZ:zt Tryz.prog (EN ll):=NZ
def lK(F:List ze->Option (List zb×Int)):Con I:=⟨16,⟨[.sl 44],[]⟩,[],⟨[.sl 49, .int .i64],[]⟩,0,F⟩
theorem YX:zt Tryz.prog (lK parseF):=CX
def iI(F:List Str×Str->Option Str):Con I:=⟨85,⟨[.sl 9, .str],[]⟩,[],⟨[.str],[]⟩,0,F⟩
theorem uU:zt Tryz.prog (iI Vj):=JW
theorem dP:zt Tryz.prog (Qm stringslite_HasPrefix):=
 okC (A:=⟨[],[],[],0,[],[],[]⟩) (exS:=⟨[.bool],[]⟩) Tryz.f130 zZ (by kernel_rfl) (by kernel_rfl) fun x=>by kernel_rfl
theorem Zk:zt Tryz.prog (Zf strings_HasPrefix):=
 okC (A:=⟨[Qm stringslite_HasPrefix],[],[],0,[],[],[]⟩) (exS:=⟨[.bool],[]⟩) Tryz.f93 (memC dP zZ) (by kernel_rfl) (by kernel_rfl) fun x=>by kernel_rfl
theorem G8:zt Tryz.prog (eP Zb):=
 okC (A:=⟨[Zf strings_HasPrefix,tC Ji],[],[],1,[(0,⟨[],⟨[],[(0, .row 133)]⟩,[0],[],[0],0,[],⟨[],[(0, .row 133)]⟩,[0]⟩)],[],[]⟩) (exS:=⟨[],[(0, .row 133)]⟩) Tryz.f100 (memC Zk (memC BL zZ)) (by kernel_rfl) (by kernel_rfl) fun x=>by kernel_rfl
theorem zC:zt Tryz.prog (zB zf):=
 okC (A:=⟨[],[],[],1,[],[],[]⟩) (exS:=⟨[.int .i64],[]⟩) Tryz.f137 zZ (by kernel_rfl) (by kernel_rfl) fun x=>by kernel_rfl
theorem Bu:zt Tryz.prog (QY Zr):=
 okC (A:=⟨[],[],[],0,[],[],[]⟩) (exS:=⟨[.bool],[]⟩) Tryz.f138 zZ (by kernel_rfl) (by kernel_rfl) fun x=>by kernel_rfl
theorem QH:zt Tryz.prog (qP zQ):=
 okC (A:=⟨[zB zf,QY Zr],[],[],1,[(0,⟨[],⟨[],[(0, .row 133)]⟩,[0,1],[],[0],0,[],⟨[],[(0, .row 133)]⟩,[0]⟩)],[],[]⟩) (exS:=⟨[],[(0, .row 133)]⟩) Tryz.f139 (memC zC (memC Bu zZ)) (by kernel_rfl) (by kernel_rfl) fun x=>by kernel_rfl
theorem P8:zt Tryz.prog (QM qb):=
 okC (A:=⟨[],[(2,[1]),(4,[9]),(7,[14]),(9,[19])],[],0,[],[(7,⟨[25],⟨[.bool],[]⟩,[0,1,5],[],[],0,[],⟨[],[]⟩,[]⟩)],[]⟩) (exS:=⟨[.own 0],[(0, .sl 5)]⟩) Tryz.f237 zZ (by kernel_rfl) (by kernel_rfl) fun x=>by kernel_rfl
theorem l6:zt Tryz.prog (NP Zw):=
 okC (A:=⟨[QM qb],[(2,[3])],[],0,[],[],[]⟩) (exS:=⟨[.own 0],[(0, .sl 5)]⟩) Tryz.f210 (memC P8 zZ) (by kernel_rfl) (by kernel_rfl) fun x=>by kernel_rfl
theorem Xy:zt Tryz.prog (Du ZO):=
 okC (A:=⟨[],[],[],0,[],[],[]⟩) (exS:=⟨[.bool],[]⟩) Tryz.f212 zZ (by kernel_rfl) (by kernel_rfl) fun x=>by kernel_rfl
theorem Cu:zt Tryz.prog (QX Zg):=
 okC (A:=⟨[Du ZO],[],[],0,[],[],[]⟩) (exS:=⟨[.bool],[]⟩) Tryz.f174 (memC Xy zZ) (by kernel_rfl) (by kernel_rfl) fun x=>by kernel_rfl
theorem gN:zt Tryz.prog (VE Qz):=
 okC (A:=⟨[QX Zg,Du ZO],[],[],0,[],[],[]⟩) (exS:=⟨[.int .i64],[]⟩) Tryz.f211 (memC Cu (memC Xy zZ)) (by kernel_rfl) (by kernel_rfl) fun x=>by kernel_rfl
theorem C8:zt Tryz.prog (XP Zh):=
 okC (A:=⟨[zB zf,NP Zw,VE Qz,QY Zr],[(7,[3])],[],1,[(10,⟨[6,36],⟨[.int .i64, .int .i64],[(0, .row 133)]⟩,[0,1,4],[],[0],0,[6],⟨[.int .i64],[(0, .row 133)]⟩,[0]⟩)],[(17,⟨[6],⟨[.int .i64],[(0, .row 133)]⟩,[1],[],[0],0,[],⟨[],[]⟩,[]⟩),(19,⟨[6],⟨[.int .i64],[]⟩,[],[0],[],0,[],⟨[],[]⟩,[]⟩)],[]⟩) (exS:=⟨[.own 1],[(0, .row 133),(1, .sl 5)]⟩) Tryz.f172 (memC zC (memC l6 (memC gN (memC Bu zZ)))) (by kernel_rfl) (by kernel_rfl) fun x=>by kernel_rfl
theorem O8:zt Tryz.prog (QN qc):=
 okC (A:=⟨[],[(2,[1]),(4,[9]),(7,[14]),(9,[19])],[],1,[],[(7,⟨[25],⟨[.bool],[(0, .sl 5)]⟩,[0,1,5],[],[0],0,[],⟨[],[]⟩,[]⟩)],[]⟩) (exS:=⟨[.own 1],[(1, .sl 5)]⟩) Tryz.f237 zZ (by kernel_rfl) (by kernel_rfl) fun x=>by kernel_rfl
theorem Y6:zt Tryz.prog (MP Zx):=
 okC (A:=⟨[QN qc],[(2,[3])],[],1,[],[],[]⟩) (exS:=⟨[.own 1],[(1, .sl 5)]⟩) Tryz.f210 (memC O8 zZ) (by kernel_rfl) (by kernel_rfl) fun x=>by kernel_rfl
theorem qK:zt Tryz.prog (Z9 zL):=
 okC (A:=⟨[zB zf,MP Zx,VE Qz,QY Zr],[(7,[3])],[],2,[(10,⟨[6,36],⟨[.int .i64, .int .i64],[(0, .row 133)]⟩,[0,1,4],[1],[0],0,[6],⟨[.int .i64],[(0, .row 133)]⟩,[0]⟩)],[(17,⟨[6],⟨[.int .i64],[(0, .row 133),(1, .sl 5)]⟩,[1],[],[0,1],0,[],⟨[],[]⟩,[]⟩),(19,⟨[6],⟨[.int .i64],[(1, .sl 5)]⟩,[],[0],[1],0,[],⟨[],[]⟩,[]⟩)],[]⟩) (exS:=⟨[.own 2],[(0, .row 133),(2, .sl 5)]⟩) Tryz.f172 (memC zC (memC Y6 (memC gN (memC Bu zZ)))) (by kernel_rfl) (by kernel_rfl) fun x=>by kernel_rfl
theorem Y7:zt Tryz.prog (gP ZA):=
 okC (A:=⟨[zB zf,Z9 zL],[(5,[3])],[],1,[(4,⟨[4],⟨[.own 1001],[(0, .row 133),(1, .row 44),(1001, .sl 5)]⟩,[0,2,3],[],[0,1],0,[4],⟨[.own 1001],[(0, .row 133),(1, .row 44),(1001, .sl 5)]⟩,[0,1,1001]⟩)],[],[]⟩) (exS:=⟨[.optr 1],[(0, .row 133),(1, .row 44)]⟩) Tryz.f140 (memC zC (memC qK zZ)) (by kernel_rfl) (by kernel_rfl) fun x=>by kernel_rfl
theorem WO:zt Tryz.prog (vE Tm):=
 okC (A:=⟨[Du ZO],[],[],0,[],[],[]⟩) (exS:=⟨[.bool],[]⟩) Tryz.f173 (memC Xy zZ) (by kernel_rfl) (by kernel_rfl) fun x=>by kernel_rfl
theorem vO:zt Tryz.prog (bF Qk):=
 okC (A:=⟨[vE Tm,QX Zg],[],[],0,[],[],[]⟩) (exS:=⟨[.bool],[]⟩) Tryz.f141 (memC WO (memC Cu zZ)) (by kernel_rfl) (by kernel_rfl) fun x=>by kernel_rfl
theorem ZU:zt Tryz.prog (ZE zq):=
 okC (A:=⟨[zB zf],[],[],1,[],[],[]⟩) (exS:=⟨[.bool],[]⟩) Tryz.f142 (memC zC zZ) (by kernel_rfl) (by kernel_rfl) fun x=>by kernel_rfl
theorem EP:zt Tryz.prog (Q8 zy):=
 okC (A:=⟨[zB zf,vE Tm,ZE zq],[],[],1,[],[],[]⟩) (exS:=⟨[.bool],[]⟩) Tryz.f143 (memC zC (memC WO (memC ZU zZ))) (by kernel_rfl) (by kernel_rfl) fun x=>by kernel_rfl
theorem QR:zt Tryz.prog (Qb zM):=
 okC (A:=⟨[zB zf,bF Qk,ZE zq,Z9 zL],[(5,[3])],[],1,[(2,⟨[3],⟨[.own 1002],[(0, .row 133),(1002, .sl 5)]⟩,[0],[],[0],0,[],⟨[],[]⟩,[]⟩)],[],[]⟩) (exS:=⟨[.str],[(0, .row 133)]⟩) Tryz.f144 (memC zC (memC vO (memC ZU (memC qK zZ)))) (by kernel_rfl) (by kernel_rfl) fun x=>by kernel_rfl
theorem l7:zt Tryz.prog (iP Zl):=
 okC (A:=⟨[zB zf,QX Zg],[],[],1,[],[(5,⟨[3],⟨[.int .i64],[]⟩,[0],[],[],0,[],⟨[],[]⟩,[]⟩),(7,⟨[3],⟨[.int .i64],[]⟩,[],[],[],0,[],⟨[],[]⟩,[]⟩)],[]⟩) (exS:=⟨[.bool],[]⟩) Tryz.f145 (memC zC (memC Cu zZ)) (by kernel_rfl) (by kernel_rfl) fun x=>by kernel_rfl
theorem R7:zt Tryz.prog (YP zO):=
 okC (A:=⟨[zB zf,QX Zg],[],[],1,[(0,⟨[],⟨[],[(0, .row 133)]⟩,[0,1],[],[0],0,[],⟨[],[(0, .row 133)]⟩,[0]⟩)],[],[]⟩) (exS:=⟨[],[(0, .row 133)]⟩) Tryz.f139 (memC zC (memC Cu zZ)) (by kernel_rfl) (by kernel_rfl) fun x=>by kernel_rfl
theorem V7:zt Tryz.prog (bP Zq):=
 okC (A:=⟨[zB zf,YP zO,QX Zg],[],[],1,[],[(4,⟨[],⟨[],[(0, .row 133)]⟩,[0],[],[0],0,[],⟨[],[]⟩,[]⟩),(10,⟨[4],⟨[.bool],[(0, .row 133)]⟩,[],[],[0],0,[],⟨[],[]⟩,[]⟩),(15,⟨[4,5],⟨[.bool, .int .i64],[(0, .row 133)]⟩,[],[],[0],0,[],⟨[],[]⟩,[]⟩),(19,⟨[4],⟨[.bool],[(0, .row 133)]⟩,[],[],[0],0,[],⟨[],[]⟩,[]⟩)],[]⟩) (exS:=⟨[.bool],[(0, .row 133)]⟩) Tryz.f175 (memC zC (memC R7 (memC Cu zZ))) (by kernel_rfl) (by kernel_rfl) fun x=>by kernel_rfl
theorem u6:zt Tryz.prog (OP Zv):=
 okC (A:=⟨[jK Ih,GN Qv,JH cutF],[],[],0,[(8,⟨[6,31],⟨[.int .i64, .int .i64],[]⟩,[0,2,3,4,5,29,30],[0],[],0,[6],⟨[.int .i64],[]⟩,[]⟩),(22,⟨[12,81],⟨[.int .i64, .int .i64],[]⟩,[4,79,80],[0],[],2,[12],⟨[.int .i64],[]⟩,[]⟩),(26,⟨[4,12],⟨[.int .i64, .int .i64],[]⟩,[],[],[],4,[12],⟨[.int .i64],[]⟩,[]⟩)],[(14,⟨[0,4,6],⟨[.str, .int .i64, .int .i64],[]⟩,[3,5],[],[],0,[],⟨[],[]⟩,[]⟩),(15,⟨[0,4],⟨[.str, .int .i64],[]⟩,[3],[],[],0,[],⟨[],[]⟩,[]⟩),(20,⟨[0,4],⟨[.str, .int .i64],[]⟩,[],[],[],0,[],⟨[],[]⟩,[]⟩),(31,⟨[12],⟨[.int .i64],[]⟩,[],[],[],0,[],⟨[],[]⟩,[]⟩)],[]⟩) (exS:=⟨[.int .i64],[]⟩) Tryz.f176 (memC WX (memC gZ (memC aS zZ))) (by kernel_rfl) (by kernel_rfl) fun x=>by kernel_rfl
theorem U7:zt Tryz.prog (aP Ze):=
 okC (A:=⟨[bP Zq,OP Zv,Q8 zy,Qb zM,zB zf],[],[],1,[],[(9,⟨[],⟨[],[(0, .row 133),(1, .row 44),(2, .row 44)]⟩,[2,5],[],[0,1,2],0,[],⟨[],[]⟩,[]⟩)],[]⟩) (exS:=⟨[.optr 1],[(0, .row 133),(1, .row 44)]⟩) Tryz.f146 (memC V7 (memC u6 (memC EP (memC QR (memC zC zZ))))) (by kernel_rfl) (by kernel_rfl) fun x=>by kernel_rfl
theorem VF:zt Tryz.prog (Vy Z5):=
 okC (A:=⟨[],[],[],0,[(3,⟨[10],⟨[.int .i64],[(0, .sl 5)]⟩,[2,3,8,9],[],[0],0,[],⟨[],[(0, .sl 5)]⟩,[0]⟩)],[(7,⟨[10],⟨[.int .i64],[(0, .sl 5)]⟩,[],[],[0],0,[],⟨[],[]⟩,[]⟩)],[]⟩) (exS:=⟨[.str],[]⟩) Tryz.f108 zZ (by kernel_rfl) (by kernel_rfl) fun x=>by kernel_rfl
theorem WF:zt Tryz.prog (Wy qi):=
 okC (A:=⟨[Vy Z5],[],[],0,[],[],[]⟩) (exS:=⟨[.bool],[]⟩) Tryz.f109 (memC VF zZ) (by kernel_rfl) (by kernel_rfl) fun x=>by kernel_rfl
theorem D7:zt Tryz.prog (RP Zu):=
 okC (A:=⟨[zB zf,ZE zq,XP Zh],[],[],1,[(1,⟨[],⟨[],[(0, .row 133),(1, .row 44)]⟩,[0,2],[],[0,1],0,[],⟨[],[]⟩,[]⟩)],[],[]⟩) (exS:=⟨[.optr 1],[(0, .row 133),(1, .row 44)]⟩) Tryz.f216 (memC zC (memC ZU (memC C8 zZ))) (by kernel_rfl) (by kernel_rfl) fun x=>by kernel_rfl
theorem A7:zt Tryz.prog (PP Z8):=
 okC (A:=⟨[qP zQ,zB zf,QY Zr,RP Zu,Du ZO,ZE zq,Z9 zL],[(18,[3])],[],1,[(3,⟨[3],⟨[.own 1003],[(0, .row 133),(1, .row 44),(1003, .sl 5)]⟩,[0,2],[],[0,1],0,[],⟨[],[]⟩,[]⟩)],[(10,⟨[3,4],⟨[.own 1003, .int .i64],[(0, .row 133),(1, .row 44),(1003, .sl 5)]⟩,[],[],[0,1,1003],0,[],⟨[],[]⟩,[]⟩)],[]⟩) (exS:=⟨[.optr 1],[(0, .row 133),(1, .row 44)]⟩) Tryz.f177 (memC QH (memC zC (memC Bu (memC D7 (memC Xy (memC ZU (memC qK zZ))))))) (by kernel_rfl) (by kernel_rfl) fun x=>by kernel_rfl
theorem A8:zt Tryz.prog (FP Zi):=
 okC (A:=⟨[Qb zM,zB zf,Wy qi,qP zQ,PP Z8],[],[],1,[],[(11,⟨[],⟨[],[(0, .row 133),(1, .row 44)]⟩,[2,3],[],[0,1],0,[],⟨[],[]⟩,[]⟩)],[]⟩) (exS:=⟨[.optr 1],[(0, .row 133),(1, .row 44)]⟩) Tryz.f147 (memC QR (memC zC (memC WF (memC QH (memC A7 zZ))))) (by kernel_rfl) (by kernel_rfl) fun x=>by kernel_rfl
theorem qp:zt Tryz.prog (ZZ strings_IndexByte):=
 okC (A:=⟨[nL Yr],[],[],0,[],[],[]⟩) (exS:=⟨[.int .i64],[]⟩) Tryz.f119 (memC WY zZ) (by kernel_rfl) (by kernel_rfl) fun x=>by kernel_rfl
theorem N7:zt Tryz.prog (IP ZC):=
 okC (A:=⟨[zB zf,QY Zr,qP zQ,gP ZA,bF Qk,ZE zq,Q8 zy,Qb zM,iP Zl,aP Ze,Zf strings_HasPrefix,FP Zi,ZZ strings_IndexByte],[],[],1,[],[],[]⟩) (exS:=⟨[.optr 1],[(0, .row 133),(1, .row 44)]⟩) Tryz.f101 (memC zC (memC Bu (memC QH (memC Y7 (memC vO (memC ZU (memC EP (memC QR (memC l7 (memC U7 (memC Zk (memC A8 (memC qp zZ))))))))))))) (by kernel_rfl) (by kernel_rfl) fun x=>by kernel_rfl
theorem G7:zt Tryz.prog (CP qO):=
 okC (A:=⟨[],[(1,[2])],[],2,[],[],[]⟩) (exS:=⟨[],[(0, .cells 22 [.own 2]),(2, .sl 44)]⟩) Tryz.f70 zZ (by kernel_rfl) (by kernel_rfl) fun x=>by kernel_rfl
theorem Y4:zt Tryz.prog (fO QT):=
 okC (A:=⟨[mK Ki,eP Zb,IP ZC,CP qO],[],[],1,[(7,⟨[7],⟨[.int .i64],[(0, .cells 22 [.own 1004]),(1004, .sl 44),(1, .row 133)]⟩,[0,1,6],[],[0,1],0,[],⟨[],[(0, .cells 22 [.own 1004]),(1004, .sl 44),(1, .row 133)]⟩,[0,1,1004]⟩)],[],[]⟩) (exS:=⟨[.int .i64],[(0, .cells 22 [.own 1]),(1, .sl 44)]⟩) Tryz.f69 (memC IX (memC G8 (memC N7 (memC G7 zZ)))) (by kernel_rfl) (by kernel_rfl) fun x=>by kernel_rfl
theorem wO:zt Tryz.prog (eF qX):=
 okC (A:=⟨[fO QT],[],[],0,[],[],[]⟩) (exS:=⟨[.sl 44, .int .i64],[]⟩) Tryz.f33 (memC Y4 zZ) (by kernel_rfl) (by kernel_rfl) fun x=>by kernel_rfl
theorem UF:zt Tryz.prog (Uy qj):=
 okC (A:=⟨[],[],[],0,[],[(7,⟨[6],⟨[.bool],[]⟩,[0],[],[],0,[],⟨[],[]⟩,[]⟩)],[]⟩) (exS:=⟨[.int .u8],[]⟩) Tryz.f61 zZ (by kernel_rfl) (by kernel_rfl) fun x=>by kernel_rfl
theorem sZ(qo:List zb×Int->Option zw)(hs:zt Tryz.prog (yt qo)):zt Tryz.prog (yt (Ep qo)):=
 okC (A:=⟨[Uy qj,yt qo],[],[],0,[(3,⟨[12],⟨[.int .i64],[(1, .row 101)]⟩,[1,4,5,10,11],[0],[1],0,[],⟨[],[(1, .row 101)]⟩,[1]⟩)],[(9,⟨[],⟨[],[(1, .row 101)]⟩,[7,8,12],[2],[1],0,[],⟨[],[]⟩,[]⟩),(12,⟨[12],⟨[.int .i64],[(1, .row 101)]⟩,[],[],[1],0,[],⟨[],[]⟩,[]⟩)],[]⟩) (exS:=⟨[.optr 0],[(0, .row 101)]⟩) Tryz.f65 (memC UF (memC hs zZ)) (by kernel_rfl) (by kernel_rfl) fun x=>by kernel_rfl
theorem cZ:zt Tryz.prog (yt qo):=
 zt.recE (I:=I) (P:=Tryz.prog) (f:=65) (inS:=⟨[.sl 49, .int .u8],[]⟩) (cst:=[]) (outS:=⟨[.val 101],[]⟩) (k:=0) (Ep) (by kernel_rfl) (fun S h=>sZ S h)
theorem Eu:zt Tryz.prog (Vp Z7):=
 okC (A:=⟨[yt qo],[],[],0,[],[],[]⟩) (exS:=⟨[.int .i64],[]⟩) Tryz.f32 (memC cZ zZ) (by kernel_rfl) (by kernel_rfl) fun x=>by kernel_rfl
theorem J7:zt Tryz.prog (LP qW):=
 okC (A:=⟨[],[],[],0,[],[],[]⟩) (exS:=⟨[.own 0],[(0, .sl 49)]⟩) Tryz.f98 zZ (by kernel_rfl) (by kernel_rfl) fun x=>by kernel_rfl
theorem rZ(Qd:List zb->Option (List zb))(hs:zt Tryz.prog (gp Qd)):zt Tryz.prog (gp (Gy Qd)):=
 okC (A:=⟨[LP qW,gp Qd],[],[],0,[(3,⟨[8],⟨[.int .i64],[(0, .sl 49)]⟩,[0,2,7],[],[0],0,[],⟨[],[(0, .sl 49)]⟩,[0]⟩)],[],[]⟩) (exS:=⟨[.sl 49],[]⟩) Tryz.f67 (memC J7 (memC hs zZ)) (by kernel_rfl) (by kernel_rfl) fun x=>by kernel_rfl
theorem iN:zt Tryz.prog (gp Qd):=
 zt.recE (I:=I) (P:=Tryz.prog) (f:=67) (inS:=⟨[.sl 49],[]⟩) (cst:=[]) (outS:=⟨[.sl 49],[]⟩) (k:=0) (Gy) (by kernel_rfl) (fun S h=>rZ S h)
theorem V3:zt Tryz.prog (tN Tt):=
 okC (A:=⟨[Vp Z7,gp Qd],[(12,[7]),(15,[5])],[],0,[(9,⟨[7,8,24],⟨[.own 1006, .int .i64, .int .i64],[(1006, .sl 23)]⟩,[0,1,4,5,22,23],[],[],0,[7,8],⟨[.own 1006, .int .i64],[(1006, .sl 23)]⟩,[1006]⟩)],[(14,⟨[7,8,24],⟨[.own 1108, .int .i64, .int .i64],[(1108, .sl 23)]⟩,[],[],[],0,[],⟨[],[]⟩,[]⟩)],[]⟩) (exS:=⟨[.sl 23, .int .i64],[]⟩) Tryz.f28 (memC Eu (memC iN zZ)) (by kernel_rfl) (by kernel_rfl) fun x=>by kernel_rfl
theorem Mm:zt Tryz.prog (Uk Zm):=
 okC (A:=⟨[],[],[],0,[],[],[]⟩) (exS:=⟨[.bool],[]⟩) Tryz.f91 zZ (by kernel_rfl) (by kernel_rfl) fun x=>by kernel_rfl
theorem kZ:zt Tryz.prog (MN Sm):=
 okC (A:=⟨[Uk Zm],[],[],0,[(1,⟨[0],⟨[.sl 49],[]⟩,[2],[],[],0,[0],⟨[.sl 49],[]⟩,[]⟩)],[],[]⟩) (exS:=⟨[.sl 49],[]⟩) Tryz.f107 (memC Mm zZ) (by kernel_rfl) (by kernel_rfl) fun x=>by kernel_rfl
theorem J4:zt Tryz.prog (XN QZ):=
 okC (A:=⟨[Uk Zm],[],[],0,[(1,⟨[0],⟨[.sl 49],[]⟩,[2],[],[],0,[0],⟨[.sl 49],[]⟩,[]⟩)],[],[]⟩) (exS:=⟨[.sl 49],[]⟩) Tryz.f106 (memC Mm zZ) (by kernel_rfl) (by kernel_rfl) fun x=>by kernel_rfl
theorem jN:zt Tryz.prog (WE Ij):=
 okC (A:=⟨[Uk Zm],[],[],0,[],[],[]⟩) (exS:=⟨[.bool],[]⟩) Tryz.f92 (memC Mm zZ) (by kernel_rfl) (by kernel_rfl) fun x=>by kernel_rfl
theorem H5:zt Tryz.prog (JO Gp):=
 okC (A:=⟨[],[],[],1,[],[],[]⟩) (exS:=⟨[.bool],[]⟩) Tryz.f68 zZ (by kernel_rfl) (by kernel_rfl) fun x=>by kernel_rfl
theorem dZ:zt Tryz.prog (SN Bt):=
 okC (A:=⟨[Vp Z7,JO Gp,gp Qd],[],[],0,[(6,⟨[6],⟨[.int .i64],[]⟩,[1,2,3,5,7],[0],[],0,[6],⟨[.int .i64],[]⟩,[]⟩),(8,⟨[7],⟨[.int .i64],[]⟩,[1,2,3,5,6],[0],[],2,[7],⟨[.int .i64],[]⟩,[]⟩)],[],[]⟩) (exS:=⟨[.sl 49, .int .i64],[]⟩) Tryz.f29 (memC Eu (memC H5 (memC iN zZ))) (by kernel_rfl) (by kernel_rfl) fun x=>by kernel_rfl
theorem F6(Zz:List zb×List ze->Option (List ze))(hs:zt Tryz.prog (Hu Zz)):zt Tryz.prog (Hu (Q3 Zz)):=
 okC (A:=⟨[Uy qj,Hu Zz],[(4,[3]),(7,[6])],[],1,[(2,⟨[0,10],⟨[.own 1109, .int .i64],[(1109, .sl 44)]⟩,[4,8,9],[],[],0,[0],⟨[.own 1109],[(1109, .sl 44)]⟩,[1109]⟩)],[(8,⟨[0,10],⟨[.own 1211, .int .i64],[(1211, .sl 44)]⟩,[],[],[],0,[],⟨[],[]⟩,[]⟩)],[]⟩) (exS:=⟨[.own 1],[(1, .sl 44)]⟩) Tryz.f63 (memC UF (memC hs zZ)) (by kernel_rfl) (by kernel_rfl) fun x=>by kernel_rfl
theorem G6:zt Tryz.prog (Hu Zz):=
 zt.recE (I:=I) (P:=Tryz.prog) (f:=63) (inS:=⟨[.own 0, .sl 49],[(0, .sl 44)]⟩) (cst:=[]) (outS:=⟨[.own 1],[(1, .sl 44)]⟩) (k:=1) (Q3) (by kernel_rfl) (fun S h=>F6 S h)
theorem XO:zt Tryz.prog (FO qZ):=
 okC (A:=⟨[Uy qj,Hu Zz],[(4,[3]),(7,[6])],[],0,[(2,⟨[0,10],⟨[.own 1213, .int .i64],[(1213, .sl 44)]⟩,[4,8,9],[],[],0,[0],⟨[.own 1213],[(1213, .sl 44)]⟩,[1213]⟩)],[(8,⟨[0,10],⟨[.own 1315, .int .i64],[(1315, .sl 44)]⟩,[],[],[],0,[],⟨[],[]⟩,[]⟩)],[]⟩) (exS:=⟨[.own 0],[(0, .sl 44)]⟩) Tryz.f63 (memC UF (memC G6 zZ)) (by kernel_rfl) (by kernel_rfl) fun x=>by kernel_rfl
theorem D5:zt Tryz.prog (iO qZ):=CY ipOK (by kernel_rfl) XO
theorem fZ:zt Tryz.prog (UN Hm):=
 okC (A:=⟨[Vp Z7,FO qZ],[],[],0,[],[],[]⟩) (exS:=⟨[.sl 44, .int .i64],[]⟩) Tryz.f18 (memC Eu (memC XO zZ)) (by kernel_rfl) (by kernel_rfl) fun x=>by kernel_rfl
theorem K4:zt Tryz.prog (YN Rm):=
 okC (A:=⟨[ZZ strings_IndexByte,Zf strings_HasPrefix,Vy Z5],[],[],0,[],[],[]⟩) (exS:=⟨[.bool],[]⟩) Tryz.f87 (memC qp (memC Zk (memC VF zZ))) (by kernel_rfl) (by kernel_rfl) fun x=>by kernel_rfl
theorem H8:zt Tryz.prog (fP stringslite_TrimPrefix):=
 okC (A:=⟨[Qm stringslite_HasPrefix],[],[],0,[],[],[]⟩) (exS:=⟨[.str],[]⟩) Tryz.f197 (memC dP zZ) (by kernel_rfl) (by kernel_rfl) fun x=>by kernel_rfl
theorem O7:zt Tryz.prog (JP strings_TrimPrefix):=
 okC (A:=⟨[fP stringslite_TrimPrefix],[],[],0,[],[],[]⟩) (exS:=⟨[.str],[]⟩) Tryz.f162 (memC H8 zZ) (by kernel_rfl) (by kernel_rfl) fun x=>by kernel_rfl
theorem Fu:zt Tryz.prog (Wp ZL):=
 okC (A:=⟨[],[],[],0,[],[],[]⟩) (exS:=⟨[.bool],[]⟩) Tryz.f155 zZ (by kernel_rfl) (by kernel_rfl) fun x=>by kernel_rfl
theorem rO:zt Tryz.prog (fF Qj):=
 okC (A:=⟨[JP strings_TrimPrefix,Wp ZL],[],[],0,[],[],[]⟩) (exS:=⟨[.bool],[]⟩) Tryz.f122 (memC O7 (memC Fu zZ)) (by kernel_rfl) (by kernel_rfl) fun x=>by kernel_rfl
theorem aO:zt Tryz.prog (xE Jp):=
 okC (A:=⟨[],[],[],0,[],[],[]⟩) (exS:=⟨[.bool],[]⟩) Tryz.f157 zZ (by kernel_rfl) (by kernel_rfl) fun x=>by kernel_rfl
theorem BF:zt Tryz.prog (Iy qM):=
 okC (A:=⟨[xE Jp,Wp ZL],[],[],0,[],[],[]⟩) (exS:=⟨[.bool],[]⟩) Tryz.f153 (memC aO (memC Fu zZ)) (by kernel_rfl) (by kernel_rfl) fun x=>by kernel_rfl
theorem H7:zt Tryz.prog (BP strings_Contains):=
 okC (A:=⟨[tC Ji],[],[],0,[],[],[]⟩) (exS:=⟨[.bool],[]⟩) Tryz.f154 (memC BL zZ) (by kernel_rfl) (by kernel_rfl) fun x=>by kernel_rfl
theorem iZ:zt Tryz.prog (JN wo):=
 okC (A:=⟨[ZZ strings_IndexByte,fF Qj,Zf strings_HasPrefix,Iy qM,BP strings_Contains],[],[],0,[],[(8,⟨[3,4,5,6,7,25],⟨[.bool, .bool, .bool, .bool, .bool, .bool],[]⟩,[1,16],[],[],0,[],⟨[],[]⟩,[]⟩),(14,⟨[3,4,5,6,7,63],⟨[.bool, .bool, .bool, .bool, .bool, .bool],[]⟩,[],[],[],0,[],⟨[],[]⟩,[]⟩),(22,⟨[4,5,6,7,94],⟨[.bool, .bool, .bool, .bool, .bool],[]⟩,[3],[],[],0,[],⟨[],[]⟩,[]⟩),(24,⟨[3,4,5,6,7],⟨[.bool, .bool, .bool, .bool, .bool],[]⟩,[1],[0],[],0,[],⟨[],[]⟩,[]⟩)],[]⟩) (exS:=⟨[.bool],[]⟩) Tryz.f115 (memC qp (memC rO (memC Zk (memC BF (memC H7 zZ))))) (by kernel_rfl) (by kernel_rfl) fun x=>by kernel_rfl
theorem E5:zt Tryz.prog (jO Zo):=
 okC (A:=⟨[],[],[],1,[],[],[]⟩) (exS:=⟨[.bool],[]⟩) Tryz.f116 zZ (by kernel_rfl) (by kernel_rfl) fun x=>by kernel_rfl
theorem MO:zt Tryz.prog (LF qN):=
 okC (A:=⟨[jO Zo,Wy qi],[],[],0,[],[(11,⟨[5],⟨[.int .i64],[]⟩,[3],[0],[],0,[],⟨[],[]⟩,[]⟩)],[]⟩) (exS:=⟨[.int .i64],[]⟩) Tryz.f80 (memC E5 (memC WF zZ)) (by kernel_rfl) (by kernel_rfl) fun x=>by kernel_rfl
theorem PO:zt Tryz.prog (NF QE):=
 okC (A:=⟨[JN wo,LF qN],[],[],0,[(4,⟨[10],⟨[.int .i64],[]⟩,[0,8,9],[],[],0,[],⟨[],[]⟩,[]⟩)],[],[]⟩) (exS:=⟨[.int .i64],[]⟩) Tryz.f79 (memC iZ (memC MO zZ)) (by kernel_rfl) (by kernel_rfl) fun x=>by kernel_rfl
theorem M6(zk:List zb->Option Bool)(h_decl_closers:zt Tryz.prog (qy zk)):zt Tryz.prog (xO (qz zk)):=
 okC (A:=⟨[Uk Zm,qy zk],[],[],0,[],[],[]⟩) (exS:=⟨[.bool],[]⟩) Tryz.f128 (memC Mm (memC h_decl_closers zZ)) (by kernel_rfl) (by kernel_rfl) fun x=>by kernel_rfl
theorem I8(zk:List zb->Option Bool)(h_decl_closers:zt Tryz.prog (qy zk)):zt Tryz.prog (VP (ZF zk)):=
 okC (A:=⟨[xO (qz zk)],[],[],0,[(2,⟨[8],⟨[.int .i64],[]⟩,[0,1,7],[],[],0,[],⟨[],[]⟩,[]⟩)],[],[]⟩) (exS:=⟨[.int .i64],[]⟩) Tryz.f129 (memC (M6 zk h_decl_closers) zZ) (by kernel_rfl) (by kernel_rfl) fun x=>by kernel_rfl
theorem R8(zk:List zb->Option Bool)(h_decl_closers:zt Tryz.prog (qy zk)):zt Tryz.prog (QL (Zj zk)):=
 okC (A:=⟨[VP (ZF zk)],[],[],0,[],[],[]⟩) (exS:=⟨[.bool],[]⟩) Tryz.f89 (memC (I8 zk h_decl_closers) zZ) (by kernel_rfl) (by kernel_rfl) fun x=>by kernel_rfl
theorem l5(zk:List zb->Option Bool)(hs:zt Tryz.prog (qy zk)):zt Tryz.prog (qy (QC zk)):=
 okC (A:=⟨[QL (Zj zk)],[],[],0,[],[],[]⟩) (exS:=⟨[.bool],[]⟩) Tryz.f88 (memC (R8 zk hs) zZ) (by kernel_rfl) (by kernel_rfl) fun x=>by kernel_rfl
theorem F5:zt Tryz.prog (qy zk):=
 zt.recE (I:=I) (P:=Tryz.prog) (f:=88) (inS:=⟨[.sl 49],[]⟩) (cst:=[]) (outS:=⟨[.bool],[]⟩) (k:=0) (QC) (by kernel_rfl) (fun S h=>l5 S h)
theorem G5:zt Tryz.prog (mO Yp):=
 okC (A:=⟨[Uk Zm,WE Ij],[],[],0,[],[],[]⟩) (exS:=⟨[.bool],[]⟩) Tryz.f90 (memC Mm (memC jN zZ)) (by kernel_rfl) (by kernel_rfl) fun x=>by kernel_rfl
theorem E8:zt Tryz.prog (Q7 Zn):=
 okC (A:=⟨[mO Yp],[],[],0,[(2,⟨[8],⟨[.int .i64],[]⟩,[0,1,7],[],[],0,[],⟨[],[]⟩,[]⟩)],[],[]⟩) (exS:=⟨[.int .i64],[]⟩) Tryz.f129 (memC G5 zZ) (by kernel_rfl) (by kernel_rfl) fun x=>by kernel_rfl
theorem M8:zt Tryz.prog (Qt z8):=
 okC (A:=⟨[Q7 Zn],[],[],0,[],[],[]⟩) (exS:=⟨[.bool],[]⟩) Tryz.f89 (memC E8 zZ) (by kernel_rfl) (by kernel_rfl) fun x=>by kernel_rfl
theorem CF:zt Tryz.prog (Jy zW):=
 okC (A:=⟨[UN Hm,YN Rm,NF QE,qy zk,Qt z8,Zf strings_HasPrefix,Uk Zm],[],[],0,[],[],[]⟩) (exS:=⟨[.int .i64],[]⟩) Tryz.f52 (memC fZ (memC K4 (memC PO (memC F5 (memC M8 (memC Zk (memC Mm zZ))))))) (by kernel_rfl) (by kernel_rfl) fun x=>by kernel_rfl
theorem rM:zt Tryz.prog (uD Yl):=
 okC (A:=⟨[MN Sm,XN QZ,Uk Zm,Zf strings_HasPrefix,Vy Z5,Wy qi,WE Ij,SN Bt,Jy zW],[],[],0,[],[(7,⟨[0],⟨[.sl 49],[(0, .cells 66 [.str, .nilv, .bool]),(1, .cells 66 [.str, .nilv, .bool])]⟩,[2,4],[],[0,1],0,[],⟨[],[]⟩,[]⟩),(16,⟨[0],⟨[.sl 49],[(0, .cells 66 [.str, .nilv, .bool]),(1, .cells 66 [.str, .nilv, .bool])]⟩,[],[],[0,1],0,[],⟨[],[]⟩,[]⟩)],[]⟩) (exS:=⟨[.optr 0, .bool],[(0, .row 66)]⟩) Tryz.f73 (memC kZ (memC J4 (memC Mm (memC Zk (memC VF (memC WF (memC jN (memC dZ (memC CF zZ))))))))) (by kernel_rfl) (by kernel_rfl) fun x=>by kernel_rfl
theorem YY:zt Tryz.prog (tL Nr):=
 okC (A:=⟨[tN Tt,uD Yl],[(10,[2])],[],0,[(6,⟨[6,21],⟨[.own 1317, .int .i64],[(1317, .sl 66)]⟩,[2,3,19,20],[],[],0,[6],⟨[.own 1317],[(1317, .sl 66)]⟩,[1317]⟩)],[(11,⟨[6,21],⟨[.own 1419, .int .i64],[(1419, .sl 66)]⟩,[],[],[],0,[],⟨[],[]⟩,[]⟩)],[]⟩) (exS:=⟨[.own 0, .int .i64],[(0, .sl 66)]⟩) Tryz.f39 (memC V3 (memC rM zZ)) (by kernel_rfl) (by kernel_rfl) fun x=>by kernel_rfl
theorem lN:zt Tryz.prog (YE qm):=
 okC (A:=⟨[eF qX,lK parseF,tL Nr],[],[],0,[],[],[]⟩) (exS:=⟨[.own 0, .int .i64],[(0, .sl 66)]⟩) Tryz.f41 (memC wO (memC YX (memC YY zZ))) (by kernel_rfl) (by kernel_rfl) fun x=>by kernel_rfl
theorem OO:zt Tryz.prog (MF ZM):=
 okC (A:=⟨[Zf strings_HasPrefix],[],[],0,[],[],[]⟩) (exS:=⟨[.int .i64],[]⟩) Tryz.f118 (memC Zk zZ) (by kernel_rfl) (by kernel_rfl) fun x=>by kernel_rfl
theorem jF:zt Tryz.prog (ay Zc):=
 okC (A:=⟨[Wp ZL,xE Jp,DN jl],[(2,[2]),(3,[1]),(5,[1])],[],1,[],[],[]⟩) (exS:=⟨[.own 1],[(1, .sl 5)]⟩) Tryz.f120 (memC Fu (memC aO (memC VZ zZ))) (by kernel_rfl) (by kernel_rfl) fun x=>by kernel_rfl
theorem M5:zt Tryz.prog (pO Vm):=
 okC (A:=⟨[Iy qM,Wp ZL,ay Zc],[(6,[2])],[],0,[(2,⟨[0,11],⟨[.own 1421, .int .i64],[(1421, .sl 5)]⟩,[1,2,6,10],[],[],0,[0],⟨[.own 1421],[(1421, .sl 5)]⟩,[1421]⟩)],[(8,⟨[0,11],⟨[.own 1523, .int .i64],[(1523, .sl 5)]⟩,[],[],[],0,[],⟨[],[]⟩,[]⟩)],[]⟩) (exS:=⟨[.own 0],[(0, .sl 5)]⟩) Tryz.f117 (memC BF (memC Fu (memC jF zZ))) (by kernel_rfl) (by kernel_rfl) fun x=>by kernel_rfl
theorem jZ:zt Tryz.prog (KN Km):=
 okC (A:=⟨[ZZ strings_IndexByte,MF ZM,pO Vm],[],[],0,[],[],[]⟩) (exS:=⟨[.str, .int .i64],[]⟩) Tryz.f83 (memC qp (memC OO (memC M5 zZ))) (by kernel_rfl) (by kernel_rfl) fun x=>by kernel_rfl
theorem K5:zt Tryz.prog (oO Z4):=
 okC (A:=⟨[Iy qM,Wp ZL,ay Zc],[(6,[2])],[],1,[(2,⟨[0,11],⟨[.own 1525, .int .i64],[(1525, .sl 5)]⟩,[1,2,6,10],[],[],0,[0],⟨[.own 1525],[(1525, .sl 5)]⟩,[1525]⟩)],[(8,⟨[0,11],⟨[.own 1627, .int .i64],[(1627, .sl 5)]⟩,[],[],[],0,[],⟨[],[]⟩,[]⟩)],[]⟩) (exS:=⟨[.own 1],[(1, .sl 5)]⟩) Tryz.f117 (memC BF (memC Fu (memC jF zZ))) (by kernel_rfl) (by kernel_rfl) fun x=>by kernel_rfl
theorem Y3:zt Tryz.prog (VN Pp):=
 okC (A:=⟨[],[],[],0,[],[],[]⟩) (exS:=⟨[.optr 0],[(0, .row 149)]⟩) Tryz.f123 zZ (by kernel_rfl) (by kernel_rfl) fun x=>by kernel_rfl
theorem P6:zt Tryz.prog (yO qa):=
 okC (A:=⟨[EN ll,oL Vl,uJ Wj],[(2,[1]),(6,[1])],[],1,[],[(3,⟨[0,1],⟨[.own 2149, .int .i64],[(2149, .sl 5)]⟩,[2],[],[],0,[],⟨[],[]⟩,[]⟩),(9,⟨[0],⟨[.own 2252],[(2252, .sl 5)]⟩,[],[],[],0,[],⟨[],[]⟩,[]⟩)],[]⟩) (exS:=⟨[.own 1],[(1, .sl 5)]⟩) Tryz.f121 (memC WZ (memC XY (memC VX zZ))) (by kernel_rfl) (by kernel_rfl) fun x=>by kernel_rfl
theorem J5:zt Tryz.prog (nO QQ):=
 okC (A:=⟨[MF ZM,oO Z4,ZZ strings_IndexByte,ay Zc,yO qa,fF Qj,Zf strings_HasPrefix,VN Pp],[(5,[7]),(7,[1]),(12,[1]),(14,[1]),(20,[2]),(22,[1]),(30,[2]),(32,[1]),(38,[4])],[],1,[(16,⟨[0,67],⟨[.own 1942, .int .i64],[(1942, .sl 5)]⟩,[3,4,65,66],[1,4],[],1,[0],⟨[.own 1942],[(1942, .sl 5)]⟩,[1942]⟩),(26,⟨[0,93],⟨[.own 2046, .int .i64],[(2046, .sl 5)]⟩,[3,4,91,92],[1,3],[],3,[0],⟨[.own 2046],[(2046, .sl 5)]⟩,[2046]⟩)],[(12,⟨[5],⟨[.int .i64],[(0, .sl 5)]⟩,[0,3],[1],[0],0,[],⟨[],[]⟩,[]⟩),(21,⟨[0,67],⟨[.own 2044, .int .i64],[(2044, .sl 5)]⟩,[],[],[],0,[],⟨[],[]⟩,[]⟩),(31,⟨[0,93],⟨[.own 2148, .int .i64],[(2148, .sl 5)]⟩,[],[],[],0,[],⟨[],[]⟩,[]⟩)],[]⟩) (exS:=⟨[.own 1],[(1, .sl 5)]⟩) Tryz.f81 (memC OO (memC K5 (memC qp (memC jF (memC P6 (memC rO (memC Zk (memC Y3 zZ)))))))) (by kernel_rfl) (by kernel_rfl) fun x=>by kernel_rfl
theorem I7:zt Tryz.prog (KP ZB):=
 okC (A:=⟨[],[],[],0,[(4,⟨[13],⟨[.int .i64],[]⟩,[0,1,12],[],[],0,[],⟨[],[]⟩,[]⟩)],[],[]⟩) (exS:=⟨[.bool],[]⟩) Tryz.f82 zZ (by kernel_rfl) (by kernel_rfl) fun x=>by kernel_rfl
theorem I4:zt Tryz.prog (WN Pm):=
 okC (A:=⟨[NF QE,LF qN,nO QQ,eF qX,KP ZB],[(24,[5])],[],0,[(7,⟨[5,6,7],⟨[.own 2359, .own 2360, .int .i64],[(2359, .sl 5),(2360, .sl 119)]⟩,[0],[],[],0,[5],⟨[.own 2359],[(2359, .sl 5)]⟩,[2359]⟩),(11,⟨[9,36],⟨[.own 1940, .int .i64],[(1940, .sl 5)]⟩,[5,6,7,8,34,35],[2359,2360],[],2,[9],⟨[.own 1940],[(1940, .sl 5)]⟩,[1940]⟩)],[(17,⟨[5,6,7,9],⟨[.own 2359, .own 2360, .int .i64, .own 2462],[(2359, .sl 5),(2360, .sl 119),(2462, .sl 5)]⟩,[8],[],[2359,2360],0,[],⟨[],[]⟩,[]⟩),(21,⟨[5,6,7],⟨[.own 2359, .own 2360, .int .i64],[(2359, .sl 5),(2360, .sl 119),(2463, .row 119)]⟩,[9,12],[2462],[2359,2360,2463],0,[],⟨[],[]⟩,[]⟩),(24,⟨[5,6,7],⟨[.own 2567, .own 2360, .int .i64],[(2360, .sl 119),(2567, .sl 5)]⟩,[],[2463],[2360],0,[],⟨[],[]⟩,[]⟩)],[]⟩) (exS:=⟨[.str, .int .i64],[]⟩) Tryz.f46 (memC PO (memC MO (memC J5 (memC wO (memC I7 zZ))))) (by kernel_rfl) (by kernel_rfl) fun x=>by kernel_rfl
theorem eZ:zt Tryz.prog (TN Gm):=
 okC (A:=⟨[Vp Z7,iO qZ,WN Pm],[],[],0,[],[],[]⟩) (exS:=⟨[.str, .int .i64],[]⟩) Tryz.f20 (memC Eu (memC D5 (memC I4 zZ))) (by kernel_rfl) (by kernel_rfl) fun x=>by kernel_rfl
theorem kN:zt Tryz.prog (XE Qu):=
 okC (A:=⟨[Jy zW,KN Km,TN Gm],[],[],0,[],[(13,⟨[8],⟨[.str],[]⟩,[],[],[],0,[],⟨[],[]⟩,[]⟩)],[]⟩) (exS:=⟨[.str, .int .i64],[]⟩) Tryz.f48 (memC CF (memC jZ (memC eZ zZ))) (by kernel_rfl) (by kernel_rfl) fun x=>by kernel_rfl
theorem nN:zt Tryz.prog (bE qd):=
 okC (A:=⟨[XE Qu,iI Vj],[(12,[2])],[(14,[(4,none)])],0,[(6,⟨[4,5,16],⟨[.own 2568, .bool, .int .i64],[(2568, .sl 9)]⟩,[14,15],[],[],0,[4,5],⟨[.own 2568, .bool],[(2568, .sl 9)]⟩,[2568]⟩)],[],[]⟩) (exS:=⟨[.str, .int .i64],[]⟩) Tryz.f50 (memC kN (memC uU zZ)) (by kernel_rfl) (by kernel_rfl) fun x=>by kernel_rfl
theorem YO:zt Tryz.prog (wE Z6):=
 okC (A:=⟨[YE qm,bE qd],[],[(2,[(14,none)])],0,[],[],[]⟩) (exS:=⟨[.bool],[]⟩) Tryz.f55 (memC lN (memC nN zZ)) (by kernel_rfl) (by kernel_rfl) fun x=>by kernel_rfl
theorem X3:zt Tryz.prog (uN Np):=
 okC (A:=⟨[],[],[],0,[(3,⟨[4],⟨[.int .i64],[(0, .sl 49)]⟩,[0,2,3],[],[0],0,[],⟨[],[(0, .sl 49)]⟩,[0]⟩)],[],[]⟩) (exS:=⟨[.sl 49],[]⟩) Tryz.f56 zZ (by kernel_rfl) (by kernel_rfl) fun x=>by kernel_rfl
theorem UZ:zt Tryz.prog (BN Gs):=
 okC (A:=⟨[Vp Z7,uD Yl],[],[],0,[],[],[]⟩) (exS:=⟨[.optr 0, .bool, .int .i64],[(0, .row 66)]⟩) Tryz.f37 (memC Eu (memC rM zZ)) (by kernel_rfl) (by kernel_rfl) fun x=>by kernel_rfl
theorem I5:zt Tryz.prog (KO Wt):=
 okC (A:=⟨[wE Z6],[],[],0,[],[],[]⟩) (exS:=⟨[.bool],[]⟩) Tryz.f54 (memC YO zZ) (by kernel_rfl) (by kernel_rfl) fun x=>by kernel_rfl
theorem X6:zt Tryz.prog (V6 SF):=
 okC (A:=⟨[wE Z6,YE qm,bE qd,XE Qu,uN Np,BN Gs,Jy zW,KO Wt],[(12,[4,300005]),(13,[4]),(18,[2]),(19,[1]),(20,[3]),(21,[2])],[],0,[(4,⟨[2,3],⟨[.str, .int .i64],[]⟩,[0,1],[],[],0,[2],⟨[.str],[]⟩,[]⟩),(24,⟨[28,29],⟨[.str, .int .i64],[]⟩,[0,1,7,9,11,13,15,19,21,23,25,26,27],[],[],2,[28],⟨[.str],[]⟩,[]⟩)],[],[]⟩) (exS:=⟨[.bool],[]⟩) Tryz.f12 (memC YO (memC lN (memC nN (memC kN (memC X3 (memC UZ (memC CF (memC I5 zZ)))))))) (by kernel_rfl) (by kernel_rfl) fun x=>by kernel_rfl
end Go.Lv.VT
end
