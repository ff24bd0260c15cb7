/- Contracts. -/
import Derived.Test.YtnfhfeipljhciaaGreatDoorTx
import Derived.Test.YtnfhfeipljhciaaGreatDoorIp
import Derived.Test.YtnfhfeipljhciaaGreatDoorLf
import Derived.Test.YtnfhfeipljhciaaGreatDoorGa
noncomputable section
set_option linter.unusedSimpArgs false
set_option linter.unusedVariables false
namespace Go.Lv.VT
set_option maxRecDepth 100000
open Go.Proofs
theorem okC{con:Con I}{A:Env0 I}{exS:StSh}(f:Go.Func)(hS: ∀c∈A.S,zn Tryz.prog c)(hf:Tryz.prog.funcs[con.f]? =some f)(h:chk con A f=true)(he: ∀x,evF2 A T FK f.ntmps (rsl f) (body f) con exS x=con.F x):zn Tryz.prog con:=
 okC0 mixed ipOK tok rfl rfl hS hf h he
def NS(F:List zb->Option Bool):Con I:=⟨20,⟨[.sl 51],[]⟩,[],⟨[.bool],[]⟩,0,F⟩
def yI(F:Str->Option Bool):Con I:=⟨64,⟨[.str],[]⟩,[],⟨[.bool],[]⟩,0,F⟩
def ZL(F:Int->Option Bool):Con I:=⟨114,⟨[.int .u8],[]⟩,[],⟨[.bool],[]⟩,0,F⟩
def MR(F:Str->Option Bool):Con I:=⟨95,⟨[.str],[]⟩,[],⟨[.bool],[]⟩,0,F⟩
def ry(F:Int->Option Bool):Con I:=⟨175,⟨[.int .u8],[]⟩,[],⟨[.bool],[]⟩,0,F⟩
def qM(F:Str×Int->Option Int):Con I:=⟨156,⟨[.str, .int .i64],[]⟩,[],⟨[.int .u8],[]⟩,0,F⟩
def VD(F:Str×Int->Option Int):Con I:=⟨176,⟨[.str, .int .i64],[]⟩,[],⟨[.int .i64],[]⟩,0,F⟩
def WI(F:Unit->Option Str):Con I:=⟨218,⟨[],[]⟩,[],⟨[.str],[]⟩,0,F⟩
def QY(F:Int->Option Int):Con I:=⟨133,⟨[.int .u8],[]⟩,[],⟨[.int .u8],[]⟩,0,F⟩
def kQ(F:Int->Option Int):Con I:=⟨219,⟨[.int .u8],[]⟩,[],⟨[.int .i64],[]⟩,0,F⟩
def TR(F:Int->Option Str):Con I:=⟨220,⟨[.int .i64],[]⟩,[],⟨[.str],[]⟩,0,F⟩
def QO(F:Str×Int->Option (Str×Int)):Con I:=⟨203,⟨[.str, .int .i64],[]⟩,[],⟨[.str, .int .i64],[]⟩,0,F⟩
def jS(F:Str×Int->Option (zb×Int)):Con I:=⟨177,⟨[.str, .int .i64],[]⟩,[],⟨[.val 51, .int .i64],[]⟩,0,F⟩
def vI(F:Int->Option Bool):Con I:=⟨157,⟨[.int .u8],[]⟩,[],⟨[.bool],[]⟩,0,F⟩
def ny(F:Int->Option Bool):Con I:=⟨113,⟨[.int .u8],[]⟩,[],⟨[.bool],[]⟩,0,F⟩
def QF(F:Str×Int->Option Bool):Con I:=⟨178,⟨[.str, .int .i64],[]⟩,[],⟨[.bool],[]⟩,0,F⟩
def ED(F:Str×Int->Option (Str×Int)):Con I:=⟨179,⟨[.str, .int .i64],[]⟩,[],⟨[.str, .int .i64],[]⟩,0,F⟩
def wI(F:Str×Int->Option Bool):Con I:=⟨180,⟨[.str, .int .i64],[]⟩,[],⟨[.bool],[]⟩,0,F⟩
def PT(F:Str×Int->Option Bool):Con I:=⟨181,⟨[.str, .int .i64],[]⟩,[],⟨[.bool],[]⟩,0,F⟩
def kS(F:Str×Int->Option Int):Con I:=⟨221,⟨[.str, .int .i64],[]⟩,[],⟨[.int .i64],[]⟩,0,F⟩
def fT(F:Str×Int->Option (Int×Bool)):Con I:=⟨204,⟨[.str, .int .i64],[]⟩,[],⟨[.int .i64, .bool],[]⟩,0,F⟩
def rT(F:Str->Option Int):Con I:=⟨205,⟨[.str],[]⟩,[],⟨[.int .i64],[]⟩,0,F⟩
def bT(F:Str×Int->Option (zb×Int)):Con I:=⟨182,⟨[.str, .int .i64],[]⟩,[],⟨[.val 51, .int .i64],[]⟩,0,F⟩
def MI(F:Str×Int×Str->Option Bool):Con I:=⟨174,⟨[.str, .int .i64, .str],[]⟩,[],⟨[.bool],[]⟩,0,F⟩
def RS(F:Str->Option Str):Con I:=⟨85,⟨[.str],[]⟩,[],⟨[.str],[]⟩,0,F⟩
def FD(F:Str×Str->Option Bool):Con I:=⟨52,⟨[.str, .str],[]⟩,[],⟨[.bool],[]⟩,0,F⟩
def jQ(F:Str×Int->Option (zb×Int)):Con I:=⟨222,⟨[.str, .int .i64],[]⟩,[],⟨[.val 51, .int .i64],[]⟩,0,F⟩
def nT(F:Int->Option Bool):Con I:=⟨223,⟨[.int .u8],[]⟩,[],⟨[.bool],[]⟩,0,F⟩
def iQ(F:Str×Int->Option (zb×Int)):Con I:=⟨206,⟨[.str, .int .i64],[]⟩,[],⟨[.val 51, .int .i64],[]⟩,0,F⟩
def NR(F:Str×Int->Option (zb×Int)):Con I:=⟨183,⟨[.str, .int .i64],[]⟩,[],⟨[.val 51, .int .i64],[]⟩,0,F⟩
def PR(F:Int->Option Int):Con I:=⟨184,⟨[.int .u8],[]⟩,[],⟨[.int .u8],[]⟩,0,F⟩
def NI(F:Str×Int->Option (zb×Int)):Con I:=⟨139,⟨[.str, .int .i64],[]⟩,[],⟨[.val 51, .int .i64],[]⟩,0,F⟩
def PS(F:Int->Option Bool):Con I:=⟨96,⟨[.int .u8],[]⟩,[],⟨[.bool],[]⟩,0,F⟩
def kI(F:zb->Option Bool):Con I:=⟨51,⟨[.val 51],[]⟩,[],⟨[.bool],[]⟩,0,F⟩
def AJ(F:List zb->Option Int):Con I:=⟨21,⟨[.sl 51],[]⟩,[],⟨[.int .i64],[]⟩,0,F⟩
def ZW(F:Str×Int->Option Int):Con I:=⟨59,⟨[.str, .int .u8],[]⟩,[],⟨[.int .i64],[]⟩,0,F⟩
def Qv(F:Str×Str->Option Bool):Con I:=⟨126,⟨[.str, .str],[]⟩,[],⟨[.bool],[]⟩,0,F⟩
def JU(F:Str×Str->Option Str):Con I:=⟨191,⟨[.str, .str],[]⟩,[],⟨[.str],[]⟩,0,F⟩
def DU(F:Str×Str->Option Str):Con I:=⟨146,⟨[.str, .str],[]⟩,[],⟨[.str],[]⟩,0,F⟩
def Eu(F:Int->Option Bool):Con I:=⟨108,⟨[.int .u8],[]⟩,[],⟨[.bool],[]⟩,0,F⟩
def XD(F:Str->Option Bool):Con I:=⟨100,⟨[.str],[]⟩,[],⟨[.bool],[]⟩,0,F⟩
def ZA(F:Str×Str->Option Bool):Con I:=⟨76,⟨[.str, .str],[]⟩,[],⟨[.bool],[]⟩,0,F⟩
def EJ(F:Int->Option Bool):Con I:=⟨141,⟨[.int .u8],[]⟩,[],⟨[.bool],[]⟩,0,F⟩
def GD(F:Int->Option Bool):Con I:=⟨105,⟨[.int .u8],[]⟩,[],⟨[.bool],[]⟩,0,F⟩
def uT(F:Str×Str->Option Bool):Con I:=⟨106,⟨[.str, .str],[]⟩,[],⟨[.bool],[]⟩,0,F⟩
def OI(F:zb->Option Bool):Con I:=⟨58,⟨[.val 51],[]⟩,[],⟨[.bool],[]⟩,0,F⟩
def nS(F:(Int×Int)×List zb->Option Bool):Con I:=⟨97,⟨[.int .i64, .int .u8, .optr 0],[(0, .row 41)]⟩,[0],⟨[.bool],[]⟩,0,F⟩
def SS(F:Str->Option Str):Con I:=⟨77,⟨[.str],[]⟩,[],⟨[.str],[]⟩,0,F⟩
def BJ(F:Str×Str->Option Bool):Con I:=⟨78,⟨[.str, .str],[]⟩,[],⟨[.bool],[]⟩,0,F⟩
def XI(F:List zb->Option Int):Con I:=⟨53,⟨[.sl 51],[]⟩,[],⟨[.int .i64],[]⟩,0,F⟩
def aI(F:List zb->Option Int):Con I:=⟨26,⟨[.sl 51],[]⟩,[],⟨[.int .i64],[]⟩,0,F⟩
def JD(F:Str->Option Int):Con I:=⟨61,⟨[.str],[]⟩,[],⟨[.int .i64],[]⟩,0,F⟩
def QN(F:Int×List UInt8->Option (List UInt8)):Con I:=⟨98,⟨[.own 0, .int .u8],[(0, .sl 5)]⟩,[],⟨[.own 1],[(1, .sl 5)]⟩,1,F⟩
def DJ(F:Str×Int->Option (List UInt8)):Con I:=⟨60,⟨[.nilv, .str, .int .i64],[]⟩,[],⟨[.own 0],[(0, .sl 5)]⟩,1,F⟩
def CJ(F:(Str×Int)×List UInt8->Option (List UInt8)):Con I:=⟨60,⟨[.own 0, .str, .int .i64],[(0, .sl 5)]⟩,[],⟨[.own 1],[(1, .sl 5)]⟩,1,F⟩
def OT(F:Int×Bool->Option (List UInt8)):Con I:=⟨99,⟨[.nilv, .int .i64, .bool],[]⟩,[],⟨[.own 0],[(0, .sl 5)]⟩,1,F⟩
def YI(F:Unit->Option QE):Con I:=⟨101,⟨[],[]⟩,[],⟨[.val 130],[]⟩,0,F⟩
def WS(F:zb->Option (List UInt8)):Con I:=⟨54,⟨[.nilv, .val 51],[]⟩,[],⟨[.own 0],[(0, .sl 5)]⟩,1,F⟩
def NT(F:(Int×Bool)×List UInt8->Option (List UInt8)):Con I:=⟨99,⟨[.own 0, .int .i64, .bool],[(0, .sl 5)]⟩,[],⟨[.own 1],[(1, .sl 5)]⟩,1,F⟩
def VS(F:zb×List UInt8->Option (List UInt8)):Con I:=⟨54,⟨[.own 0, .val 51],[(0, .sl 5)]⟩,[],⟨[.own 1],[(1, .sl 5)]⟩,1,F⟩
def IU(F:za->Option za):Con I:=⟨103,⟨[.optr 0],[(0, .row 100)]⟩,[],⟨[],[(0, .row 100)]⟩,0,F⟩
def zw(F:Int×za->Option Int):Con I:=⟨116,⟨[.optr 0, .int .i64],[(0, .row 100)]⟩,[0],⟨[.int .i64],[]⟩,0,F⟩
def Q0(F:Int->Option Bool):Con I:=⟨150,⟨[.int .i64],[]⟩,[],⟨[.bool],[]⟩,0,F⟩
def qN(F:za->Option za):Con I:=⟨118,⟨[.optr 0, .clo 150 []],[(0, .row 100)]⟩,[],⟨[],[(0, .row 100)]⟩,0,F⟩
def QP(F:Int->Option (List UInt8)):Con I:=⟨202,⟨[.nilv, .int .i32],[]⟩,[],⟨[.own 0],[(0, .sl 5)]⟩,1,F⟩
def iT(F:Int->Option (List UInt8)):Con I:=⟨167,⟨[.nilv, .int .i32],[]⟩,[],⟨[.own 0],[(0, .sl 5)]⟩,1,F⟩
def iy(F:Int×Int×Int->Option Bool):Con I:=⟨158,⟨[.int .i64, .int .i64, .int .i64],[]⟩,[],⟨[.bool],[]⟩,0,F⟩
def QZ(F:Int->Option Bool):Con I:=⟨117,⟨[.int .i64],[]⟩,[],⟨[.bool],[]⟩,0,F⟩
def KI(F:Int->Option Int):Con I:=⟨168,⟨[.int .i64],[]⟩,[],⟨[.int .i64],[]⟩,0,F⟩
def FU(F:za->Option (za×List UInt8)):Con I:=⟨125,⟨[.optr 0, .nilv],[(0, .row 100)]⟩,[],⟨[.own 1],[(0, .row 100),(1, .sl 5)]⟩,1,F⟩
def QQ(F:Int×List UInt8->Option (List UInt8)):Con I:=⟨202,⟨[.own 0, .int .i32],[(0, .sl 5)]⟩,[],⟨[.own 1],[(1, .sl 5)]⟩,1,F⟩
def gT(F:Int×List UInt8->Option (List UInt8)):Con I:=⟨167,⟨[.own 0, .int .i32],[(0, .sl 5)]⟩,[],⟨[.own 1],[(1, .sl 5)]⟩,1,F⟩
def Z8(F:za×List UInt8->Option (za×List UInt8)):Con I:=⟨125,⟨[.optr 0, .own 1],[(0, .row 100),(1, .sl 5)]⟩,[],⟨[.own 2],[(0, .row 100),(2, .sl 5)]⟩,1,F⟩
def wT(F:za->Option (zb×za)):Con I:=⟨151,⟨[.optr 0],[(0, .row 100)]⟩,[],⟨[.val 51],[(0, .row 100)]⟩,0,F⟩
def xI(F:Int->Option Bool):Con I:=⟨122,⟨[.int .i64],[]⟩,[],⟨[.bool],[]⟩,0,F⟩
def uI(F:Int->Option Bool):Con I:=⟨124,⟨[.int .i64],[]⟩,[],⟨[.bool],[]⟩,0,F⟩
def Zx(F:Int×za->Option Bool):Con I:=⟨123,⟨[.optr 0, .int .i64],[(0, .row 100)]⟩,[0],⟨[.bool],[]⟩,0,F⟩
def JJ(F:Int×za->Option Bool):Con I:=⟨69,⟨[.optr 0, .int .i64],[(0, .row 100)]⟩,[0],⟨[.bool],[]⟩,0,F⟩
def Qd(F:za->Option (Str×za)):Con I:=⟨70,⟨[.optr 0],[(0, .row 100)]⟩,[],⟨[.str],[(0, .row 100)]⟩,0,F⟩
def yT(F:za->Option Bool):Con I:=⟨66,⟨[.optr 0],[(0, .row 100)]⟩,[0],⟨[.bool],[]⟩,0,F⟩
def KU(F:za->Option za):Con I:=⟨118,⟨[.optr 0, .clo 117 []],[(0, .row 100)]⟩,[],⟨[],[(0, .row 100)]⟩,0,F⟩
def MU(F:za->Option (Bool×za)):Con I:=⟨67,⟨[.optr 0],[(0, .row 100)]⟩,[],⟨[.bool],[(0, .row 100)]⟩,0,F⟩
def jT(F:Str->Option Int):Con I:=⟨68,⟨[.str],[]⟩,[],⟨[.int .i64],[]⟩,0,F⟩
def LU(F:za->Option (zb×za)):Con I:=⟨152,⟨[.optr 0],[(0, .row 100)]⟩,[],⟨[.val 51],[(0, .row 100)]⟩,0,F⟩
def lT(F:za->Option (zb×za)):Con I:=⟨216,⟨[.optr 0],[(0, .row 100)]⟩,[],⟨[.val 51],[(0, .row 100)]⟩,0,F⟩
def kT(F:za->Option (zb×za)):Con I:=⟨196,⟨[.optr 0],[(0, .row 100)]⟩,[],⟨[.val 51],[(0, .row 100)]⟩,0,F⟩
def BU(F:za->Option (zb×za)):Con I:=⟨153,⟨[.optr 0],[(0, .row 100)]⟩,[],⟨[.val 51],[(0, .row 100)]⟩,0,F⟩
def CU(F:za->Option (zb×za)):Con I:=⟨104,⟨[.optr 0],[(0, .row 100)]⟩,[],⟨[.val 51],[(0, .row 100)]⟩,0,F⟩
def tT(F:(zb×Int×Int)×List zb->Option (List zb)):Con I:=⟨57,⟨[.val 51, .int .i64, .int .i64, .optr 0],[(0, .cells 41 [.own 1]),(1, .sl 51)]⟩,[],⟨[],[(0, .cells 41 [.own 2]),(2, .sl 51)]⟩,1,F⟩
def DT(F:Str->Option (Int×List zb)):Con I:=⟨56,⟨[.str, .clo 57 [0]],[(0, .cells 41 [.nilv])]⟩,[],⟨[.int .i64],[(0, .cells 41 [.own 1]),(1, .sl 51)]⟩,1,F⟩
def FT(F:Str->Option (List zb×Int)):Con I:=⟨24,⟨[.str],[]⟩,[],⟨[.sl 51, .int .i64],[]⟩,0,F⟩
def EU(F:List zb×List zb->Option Bool):Con I:=⟨55,⟨[.sl 51, .sl 51],[]⟩,[],⟨[.bool],[]⟩,0,F⟩
def WR(F:List zb->Option (Str×Int)):Con I:=⟨23,⟨[.sl 51],[]⟩,[],⟨[.str, .int .i64],[]⟩,0,F⟩
def UR(F:List zb×List zb->Option Bool):Con I:=⟨25,⟨[.sl 51, .sl 51],[]⟩,[],⟨[.bool],[]⟩,0,F⟩
def sP(F:zb->Option (Str×Int)):Con I:=⟨34,⟨[.val 51],[]⟩,[],⟨[.str, .int .i64],[]⟩,0,F⟩
def nQ(F:Str->Option (Str×Int)):Con I:=⟨32,⟨[.str],[]⟩,[],⟨[.str, .int .i64],[]⟩,0,F⟩
def UD(F:Int->Option Str):Con I:=⟨115,⟨[.int .u8],[]⟩,[],⟨[.str],[]⟩,0,F⟩
def DD(F:Str×Bool->Option Str):Con I:=⟨65,⟨[.str, .bool],[]⟩,[],⟨[.str],[]⟩,0,F⟩
def KT(F:Str×Bool->Option Str):Con I:=⟨110,⟨[.str, .bool],[]⟩,[],⟨[.str],[]⟩,0,F⟩
def ky(F:Int->Option Str):Con I:=⟨155,⟨[.int .i64],[]⟩,[],⟨[.str],[]⟩,0,F⟩
def jy(F:Int×Bool->Option Str):Con I:=⟨111,⟨[.int .i64, .bool],[]⟩,[],⟨[.str],[]⟩,0,F⟩
def JR(F:Str->Option Str):Con I:=⟨112,⟨[.str],[]⟩,[],⟨[.str],[]⟩,0,F⟩
def jI(F:zb->Option Str):Con I:=⟨63,⟨[.val 51],[]⟩,[],⟨[.str],[]⟩,0,F⟩
def KS(F:List zb->Option (Int×Str)):Con I:=⟨109,⟨[.sl 51],[]⟩,[],⟨[.int .i64, .str],[]⟩,0,F⟩
def VR(F:Str×Int->Option Int):Con I:=⟨138,⟨[.str, .int .i64],[]⟩,[],⟨[.int .i64],[]⟩,0,F⟩
def lQ(F:Str->Option (List zb×List Ze)):Con I:=⟨93,⟨[.str],[]⟩,[],⟨[.sl 51, .sl 151],[]⟩,0,F⟩
def aT(F:List zb->Option Str):Con I:=⟨62,⟨[.sl 51],[]⟩,[],⟨[.str],[]⟩,0,F⟩
def MS(F:List zb->Option (Str×Int)):Con I:=⟨33,⟨[.sl 51],[]⟩,[],⟨[.str, .int .i64],[]⟩,0,F⟩
def gQ(F:zb->Option (Str×Int)):Con I:=⟨35,⟨[.val 51],[]⟩,[],⟨[.str, .int .i64],[]⟩,0,F⟩
def KR(F:Str->Option (Str×Int)):Con I:=⟨36,⟨[.str],[]⟩,[],⟨[.str, .int .i64],[]⟩,0,F⟩
def lS(F:List zb×List zb->Option Bool):Con I:=⟨25,⟨[.sl 51, .own 0],[(0, .sl 51)]⟩,[0],⟨[.bool],[]⟩,0,F⟩
def vT(F:List zb×zb×Str->Option Bool):Con I:=⟨8,⟨[.sl 51, .val 51, .str],[]⟩,[],⟨[.bool],[]⟩,0,F⟩
def aN(F:Str->Option (Str×Int)):Con I:=⟨102,⟨[.str],[]⟩,[],⟨[.str, .int .i64],[]⟩,0,F⟩
theorem IY:zn Tryz.prog (aN Il):=aY
def BP(F:Str×Int->Option Int):Con I:=⟨107,⟨[.str, .int .u8],[]⟩,[],⟨[.int .i64],[]⟩,0,F⟩
theorem I5:zn Tryz.prog (BP Cw):=X3
def KG(F:Str×Str->Option Int):Con I:=⟨149,⟨[.str, .str],[]⟩,[],⟨[.int .i64],[]⟩,0,F⟩
theorem xO:zn Tryz.prog (KG Gl):=YY
def YN(F:Str×Str->Option Str):Con I:=⟨119,⟨[.str, .str],[]⟩,[],⟨[.str],[]⟩,0,F⟩
theorem HY:zn Tryz.prog (YN Oj):=XY
def JG(F:Str×Str->Option Str):Con I:=⟨144,⟨[.str, .str],[]⟩,[],⟨[.str],[]⟩,0,F⟩
theorem wO:zn Tryz.prog (JG ji):=WY
def mQ(F:Str×Str->Option Int):Con I:=⟨120,⟨[.str, .str],[]⟩,[],⟨[.int .i64],[]⟩,0,F⟩
theorem l7:zn Tryz.prog (mQ QS):=U7
def sJ(F:Str×Str->Option (Str×Str×Bool)):Con I:=⟨121,⟨[.str, .str],[]⟩,[],⟨[.str, .str, .bool],[]⟩,0,F⟩
theorem zAO:zn Tryz.prog (sJ cutF):=zAt
def UH(F:Int×Int->Option Str):Con I:=⟨145,⟨[.int .i64, .int .i64],[]⟩,[],⟨[.str],[]⟩,0,F⟩
theorem BQ:zn Tryz.prog (UH Bj):=Y3
def uP(F:(Int×Int)×List UInt8->Option (List UInt8)):Con I:=⟨142,⟨[.own 0, .int .u64, .int .i64],[(0, .sl 5)]⟩,[],⟨[.own 1],[(1, .sl 5)]⟩,1,F⟩
theorem P6:zn Tryz.prog (uP uo):=Y5
def wH(F:(Int×Int)×List UInt8->Option (List UInt8)):Con I:=⟨143,⟨[.own 0, .int .i64, .int .i64],[(0, .sl 5)]⟩,[],⟨[.own 1],[(1, .sl 5)]⟩,1,F⟩
theorem VQ:zn Tryz.prog (wH Dj):=D6
theorem zl7:zn Tryz.prog (NS Ny):=
 okC (A:=⟨[],[],[],0,[(5,⟨[3,4],⟨[.int .i64, .int .i64],[]⟩,[0],[],[],0,[],⟨[],[]⟩,[]⟩)],[],[]⟩) (exS:=⟨[.bool],[]⟩) Tryz.f20 zJ (by kernel_rfl) (by kernel_rfl) fun x=>by kernel_rfl
theorem yR:zn Tryz.prog (yI Qc):=
 okC (A:=⟨[],[],[],0,[(2,⟨[3],⟨[.int .i64],[]⟩,[0],[],[],0,[],⟨[],[]⟩,[]⟩)],[],[]⟩) (exS:=⟨[.bool],[]⟩) Tryz.f64 zJ (by kernel_rfl) (by kernel_rfl) fun x=>by kernel_rfl
theorem ZJ:zn Tryz.prog (ZL zB):=
 okC (A:=⟨[],[],[],0,[],[],[]⟩) (exS:=⟨[.bool],[]⟩) Tryz.f114 zJ (by kernel_rfl) (by kernel_rfl) fun x=>by kernel_rfl
theorem l8:zn Tryz.prog (MR Dy):=
 okC (A:=⟨[ZL zB],[],[],0,[],[],[]⟩) (exS:=⟨[.bool],[]⟩) Tryz.f95 (memC ZJ zJ) (by kernel_rfl) (by kernel_rfl) fun x=>by kernel_rfl
theorem TD:zn Tryz.prog (ry Qa):=
 okC (A:=⟨[],[],[],0,[],[],[]⟩) (exS:=⟨[.bool],[]⟩) Tryz.f175 zJ (by kernel_rfl) (by kernel_rfl) fun x=>by kernel_rfl
theorem qH:zn Tryz.prog (qM zD):=
 okC (A:=⟨[],[],[],0,[],[],[]⟩) (exS:=⟨[.int .u8],[]⟩) Tryz.f156 zJ (by kernel_rfl) (by kernel_rfl) fun x=>by kernel_rfl
theorem GJ:zn Tryz.prog (VD qC):=
 okC (A:=⟨[qM zD,ry Qa],[],[],0,[(1,⟨[1],⟨[.int .i64],[]⟩,[0,4],[],[],0,[1],⟨[.int .i64],[]⟩,[]⟩)],[],[]⟩) (exS:=⟨[.int .i64],[]⟩) Tryz.f176 (memC qH (memC TD zJ)) (by kernel_rfl) (by kernel_rfl) fun x=>by kernel_rfl
theorem bR:zn Tryz.prog (WI Aq):=
 okC (A:=⟨[],[(1,[0])],[],0,[],[],[]⟩) (exS:=⟨[.str],[]⟩) Tryz.f218 zJ (by kernel_rfl) (by kernel_rfl) fun x=>by kernel_rfl
theorem gy:zn Tryz.prog (QY ZP):=
 okC (A:=⟨[],[],[],0,[],[],[]⟩) (exS:=⟨[.int .u8],[]⟩) Tryz.f133 zJ (by kernel_rfl) (by kernel_rfl) fun x=>by kernel_rfl
theorem H8:zn Tryz.prog (kQ Nt):=
 okC (A:=⟨[ZL zB,QY ZP],[],[],0,[],[],[]⟩) (exS:=⟨[.int .i64],[]⟩) Tryz.f219 (memC ZJ (memC gy zJ)) (by kernel_rfl) (by kernel_rfl) fun x=>by kernel_rfl
theorem D9:zn Tryz.prog (TR Gy):=
 okC (A:=⟨[WI Aq],[(4,[2]),(6,[8]),(8,[13]),(9,[18])],[],0,[],[],[]⟩) (exS:=⟨[.str],[]⟩) Tryz.f220 (memC bR zJ) (by kernel_rfl) (by kernel_rfl) fun x=>by kernel_rfl
theorem YD:zn Tryz.prog (QO Zt):=
 okC (A:=⟨[WI Aq,kQ Nt,qM zD,ry Qa,TR Gy],[],[],0,[(7,⟨[6,7],⟨[.int .i64, .int .i64],[]⟩,[0,1,4,5],[],[],0,[6,7],⟨[.int .i64, .int .i64],[]⟩,[]⟩)],[(12,⟨[7],⟨[.int .i64],[]⟩,[6],[],[],0,[],⟨[],[]⟩,[]⟩)],[]⟩) (exS:=⟨[.str, .int .i64],[]⟩) Tryz.f203 (memC bR (memC H8 (memC qH (memC TD (memC D9 zJ))))) (by kernel_rfl) (by kernel_rfl) fun x=>by kernel_rfl
theorem zk0:zn Tryz.prog (jS Uy):=
 okC (A:=⟨[QO Zt],[],[],0,[(4,⟨[1],⟨[.int .i64],[(0, .row 51),(1, .row 51)]⟩,[0,4,6,7],[],[0,1],0,[1],⟨[.int .i64],[(0, .row 51),(1, .row 51)]⟩,[0,1]⟩)],[],[]⟩) (exS:=⟨[.optr 0, .int .i64],[(0, .row 51)]⟩) Tryz.f177 (memC YD zJ) (by kernel_rfl) (by kernel_rfl) fun x=>by kernel_rfl
theorem UT:zn Tryz.prog (vI QX):=
 okC (A:=⟨[QY ZP],[],[],0,[],[],[]⟩) (exS:=⟨[.bool],[]⟩) Tryz.f157 (memC gy zJ) (by kernel_rfl) (by kernel_rfl) fun x=>by kernel_rfl
theorem ND:zn Tryz.prog (ny ZH):=
 okC (A:=⟨[vI QX,ZL zB],[],[],0,[],[],[]⟩) (exS:=⟨[.bool],[]⟩) Tryz.f113 (memC UT (memC ZJ zJ)) (by kernel_rfl) (by kernel_rfl) fun x=>by kernel_rfl
theorem QU:zn Tryz.prog (QF Zd):=
 okC (A:=⟨[qM zD],[],[],0,[],[],[]⟩) (exS:=⟨[.bool],[]⟩) Tryz.f178 (memC qH zJ) (by kernel_rfl) (by kernel_rfl) fun x=>by kernel_rfl
theorem oI:zn Tryz.prog (ED qZ):=
 okC (A:=⟨[ny ZH,QF Zd,QO Zt],[],[],0,[(2,⟨[1,6],⟨[.int .i64, .str],[]⟩,[0],[],[],0,[],⟨[],[]⟩,[]⟩)],[],[]⟩) (exS:=⟨[.str, .int .i64],[]⟩) Tryz.f179 (memC ND (memC QU (memC YD zJ))) (by kernel_rfl) (by kernel_rfl) fun x=>by kernel_rfl
theorem WT:zn Tryz.prog (wI qW):=
 okC (A:=⟨[qM zD,vI QX,QF Zd],[],[],0,[],[],[]⟩) (exS:=⟨[.bool],[]⟩) Tryz.f180 (memC qH (memC UT (memC QU zJ))) (by kernel_rfl) (by kernel_rfl) fun x=>by kernel_rfl
theorem zih:zn Tryz.prog (PT Xy):=
 okC (A:=⟨[qM zD,ZL zB],[],[],0,[],[(4,⟨[1],⟨[.int .i64],[]⟩,[0],[],[],0,[],⟨[],[]⟩,[]⟩),(6,⟨[1],⟨[.int .i64],[]⟩,[],[],[],0,[],⟨[],[]⟩,[]⟩)],[]⟩) (exS:=⟨[.bool],[]⟩) Tryz.f181 (memC qH (memC ZJ zJ)) (by kernel_rfl) (by kernel_rfl) fun x=>by kernel_rfl
theorem zkZ:zn Tryz.prog (kS Qr):=
 okC (A:=⟨[qM zD,ZL zB],[],[],0,[(1,⟨[1],⟨[.int .i64],[]⟩,[0,4],[],[],0,[1],⟨[.int .i64],[]⟩,[]⟩)],[],[]⟩) (exS:=⟨[.int .i64],[]⟩) Tryz.f221 (memC qH (memC ZJ zJ)) (by kernel_rfl) (by kernel_rfl) fun x=>by kernel_rfl
theorem zhs:zn Tryz.prog (fT QW):=
 okC (A:=⟨[qM zD,kS Qr,ZL zB],[],[],0,[],[(4,⟨[1],⟨[.int .i64],[]⟩,[0],[],[],0,[],⟨[],[]⟩,[]⟩),(9,⟨[1,7],⟨[.int .i64, .bool],[]⟩,[],[],[],0,[],⟨[],[]⟩,[]⟩),(15,⟨[1,7,9],⟨[.int .i64, .bool, .int .i64],[]⟩,[],[],[],0,[],⟨[],[]⟩,[]⟩),(18,⟨[1,7],⟨[.int .i64, .bool],[]⟩,[],[],[],0,[],⟨[],[]⟩,[]⟩)],[]⟩) (exS:=⟨[.int .i64, .bool],[]⟩) Tryz.f204 (memC qH (memC zkZ (memC ZJ zJ))) (by kernel_rfl) (by kernel_rfl) fun x=>by kernel_rfl
theorem zfM:zn Tryz.prog (rT Qj):=
 okC (A:=⟨[qM zD,ZL zB],[],[],0,[(5,⟨[3,5],⟨[.str, .int .i64],[]⟩,[4],[],[],0,[3,5],⟨[.str, .int .i64],[]⟩,[]⟩),(10,⟨[3,4,5],⟨[.str, .int .i64, .int .i64],[]⟩,[],[],[],2,[3,4,5],⟨[.str, .int .i64, .int .i64],[]⟩,[]⟩),(20,⟨[5,8],⟨[.int .i64, .int .i64],[]⟩,[4],[],[],4,[8],⟨[.int .i64],[]⟩,[]⟩),(28,⟨[9,10],⟨[.int .i64, .int .i64],[]⟩,[4],[],[],6,[9],⟨[.int .i64],[]⟩,[]⟩),(31,⟨[4,9],⟨[.int .i64, .int .i64],[]⟩,[],[],[],8,[9],⟨[.int .i64],[]⟩,[]⟩)],[(5,⟨[3,4,5],⟨[.str, .int .i64, .int .i64],[]⟩,[0,6],[],[],0,[],⟨[],[]⟩,[]⟩),(14,⟨[3,4,5],⟨[.str, .int .i64, .int .i64],[]⟩,[],[],[],0,[],⟨[],[]⟩,[]⟩),(19,⟨[4,5],⟨[.int .i64, .int .i64],[]⟩,[3,7],[],[],0,[],⟨[],[]⟩,[]⟩),(25,⟨[4,8],⟨[.int .i64, .int .i64],[]⟩,[],[],[],0,[],⟨[],[]⟩,[]⟩),(26,⟨[4],⟨[.int .i64],[]⟩,[3],[],[],0,[],⟨[],[]⟩,[]⟩)],[]⟩) (exS:=⟨[.int .i64],[]⟩) Tryz.f205 (memC qH (memC ZJ zJ)) (by kernel_rfl) (by kernel_rfl) fun x=>by kernel_rfl
theorem zi3:zn Tryz.prog (bT Ry):=
 okC (A:=⟨[fT QW,rT Qj,wI qW,ED qZ,qM zD],[],[],0,[],[(9,⟨[6],⟨[.int .i64],[(0, .row 51),(1, .row 51)]⟩,[4,8],[],[0,1],0,[],⟨[],[]⟩,[]⟩)],[]⟩) (exS:=⟨[.optr 0, .int .i64],[(0, .row 51)]⟩) Tryz.f182 (memC zhs (memC zfM (memC WT (memC oI (memC qH zJ))))) (by kernel_rfl) (by kernel_rfl) fun x=>by kernel_rfl
theorem yQ:zn Tryz.prog (MI Uk):=
 okC (A:=⟨[],[],[],0,[],[],[]⟩) (exS:=⟨[.bool],[]⟩) Tryz.f174 zJ (by kernel_rfl) (by kernel_rfl) fun x=>by kernel_rfl
theorem zl5:zn Tryz.prog (RS Au):=
 okC (A:=⟨[QY ZP],[],[],0,[(3,⟨[4],⟨[.int .i64],[(0, .sl 5)]⟩,[2,3],[],[0],0,[],⟨[],[(0, .sl 5)]⟩,[0]⟩)],[],[]⟩) (exS:=⟨[.str],[]⟩) Tryz.f85 (memC gy zJ) (by kernel_rfl) (by kernel_rfl) fun x=>by kernel_rfl
theorem pI:zn Tryz.prog (FD qI):=
 okC (A:=⟨[RS Au],[],[],0,[],[],[]⟩) (exS:=⟨[.bool],[]⟩) Tryz.f52 (memC zl5 zJ) (by kernel_rfl) (by kernel_rfl) fun x=>by kernel_rfl
theorem G8:zn Tryz.prog (jQ wm):=
 okC (A:=⟨[QF Zd,QO Zt],[],[],0,[(1,⟨[1],⟨[.int .i64],[]⟩,[0,4,5],[0],[],0,[1],⟨[.int .i64],[]⟩,[]⟩)],[],[]⟩) (exS:=⟨[.optr 0, .int .i64],[(0, .row 51)]⟩) Tryz.f222 (memC QU (memC YD zJ)) (by kernel_rfl) (by kernel_rfl) fun x=>by kernel_rfl
theorem zfN:zn Tryz.prog (nT Qk):=
 okC (A:=⟨[],[],[],0,[],[],[]⟩) (exS:=⟨[.bool],[]⟩) Tryz.f223 zJ (by kernel_rfl) (by kernel_rfl) fun x=>by kernel_rfl
theorem F8:zn Tryz.prog (iQ Vx):=
 okC (A:=⟨[VD qC,ry Qa,jQ wm,nT Qk,QF Zd,QO Zt],[],[],0,[(3,⟨[1],⟨[.int .i64],[(0, .row 51),(1, .row 51)]⟩,[0,4,6],[],[0,1],0,[1],⟨[.int .i64],[(0, .row 51),(1, .row 51)]⟩,[0,1]⟩)],[],[]⟩) (exS:=⟨[.optr 0, .int .i64],[(0, .row 51)]⟩) Tryz.f206 (memC GJ (memC TD (memC G8 (memC zfN (memC QU (memC YD zJ)))))) (by kernel_rfl) (by kernel_rfl) fun x=>by kernel_rfl
theorem A9:zn Tryz.prog (NR Ey):=
 okC (A:=⟨[ED qZ,qM zD,FD qI,VD qC,iQ Vx],[],[],0,[],[(8,⟨[],⟨[],[(0, .row 51)]⟩,[4,6,7],[],[0],0,[],⟨[],[]⟩,[]⟩)],[]⟩) (exS:=⟨[.optr 0, .int .i64],[(0, .row 51)]⟩) Tryz.f183 (memC oI (memC qH (memC pI (memC GJ (memC F8 zJ))))) (by kernel_rfl) (by kernel_rfl) fun x=>by kernel_rfl
theorem C9:zn Tryz.prog (PR Fy):=
 okC (A:=⟨[],[],[],0,[],[],[]⟩) (exS:=⟨[.int .u8],[]⟩) Tryz.f184 zJ (by kernel_rfl) (by kernel_rfl) fun x=>by kernel_rfl
theorem AR:zn Tryz.prog (NI Yl):=
 okC (A:=⟨[ry Qa,VD qC,jS Uy,ny ZH,QF Zd,ED qZ,wI qW,PT Xy,bT Ry,MI Uk,NR Ey,PR Fy],[],[],0,[],[],[]⟩) (exS:=⟨[.optr 0, .int .i64],[(0, .row 51)]⟩) Tryz.f139 (memC TD (memC GJ (memC zk0 (memC ND (memC QU (memC oI (memC WT (memC zih (memC zi3 (memC yQ (memC A9 (memC C9 zJ)))))))))))) (by kernel_rfl) (by kernel_rfl) fun x=>by kernel_rfl
theorem zl6:zn Tryz.prog (PS Qb):=
 okC (A:=⟨[NI Yl],[(1,[1])],[],0,[],[],[]⟩) (exS:=⟨[.bool],[]⟩) Tryz.f96 (memC AR zJ) (by kernel_rfl) (by kernel_rfl) fun x=>by kernel_rfl
theorem aR:zn Tryz.prog (kI gp):=
 okC (A:=⟨[yI Qc,MR Dy,PS Qb],[],[],0,[],[(6,⟨[8],⟨[.bool],[(1, .row 51)]⟩,[1,3,7],[0],[1],0,[],⟨[],[]⟩,[]⟩),(13,⟨[56],⟨[.bool],[(1, .row 51)]⟩,[],[],[1],0,[],⟨[],[]⟩,[]⟩),(21,⟨[90],⟨[.bool],[(1, .row 51)]⟩,[],[],[1],0,[],⟨[],[]⟩,[]⟩),(26,⟨[148],⟨[.bool],[]⟩,[],[1],[],0,[],⟨[],[]⟩,[]⟩)],[]⟩) (exS:=⟨[.bool],[]⟩) Tryz.f51 (memC yR (memC l8 (memC zl6 zJ))) (by kernel_rfl) (by kernel_rfl) fun x=>by kernel_rfl
theorem BS:zn Tryz.prog (AJ Fq):=
 okC (A:=⟨[kI gp,FD qI],[],[],0,[(4,⟨[3],⟨[.int .i64],[]⟩,[0],[],[],0,[],⟨[],[]⟩,[]⟩)],[(12,⟨[4],⟨[.int .i64],[]⟩,[3],[],[],0,[],⟨[],[]⟩,[]⟩),(14,⟨[],⟨[],[]⟩,[3],[],[],0,[],⟨[],[]⟩,[]⟩)],[]⟩) (exS:=⟨[.int .i64],[]⟩) Tryz.f21 (memC aR (memC pI zJ)) (by kernel_rfl) (by kernel_rfl) fun x=>by kernel_rfl
theorem qx:zn Tryz.prog (ZW strings_IndexByte):=
 okC (A:=⟨[BP Cw],[],[],0,[],[],[]⟩) (exS:=⟨[.int .i64],[]⟩) Tryz.f59 (memC I5 zJ) (by kernel_rfl) (by kernel_rfl) fun x=>by kernel_rfl
theorem GU:zn Tryz.prog (Qv stringslite_HasPrefix):=
 okC (A:=⟨[],[],[],0,[],[],[]⟩) (exS:=⟨[.bool],[]⟩) Tryz.f126 zJ (by kernel_rfl) (by kernel_rfl) fun x=>by kernel_rfl
theorem zdo:zn Tryz.prog (JU stringslite_TrimPrefix):=
 okC (A:=⟨[Qv stringslite_HasPrefix],[],[],0,[],[],[]⟩) (exS:=⟨[.str],[]⟩) Tryz.f191 (memC GU zJ) (by kernel_rfl) (by kernel_rfl) fun x=>by kernel_rfl
theorem zeZ:zn Tryz.prog (DU strings_TrimPrefix):=
 okC (A:=⟨[JU stringslite_TrimPrefix],[],[],0,[],[],[]⟩) (exS:=⟨[.str],[]⟩) Tryz.f146 (memC zdo zJ) (by kernel_rfl) (by kernel_rfl) fun x=>by kernel_rfl
theorem uy:zn Tryz.prog (Eu ZY):=
 okC (A:=⟨[],[],[],0,[],[],[]⟩) (exS:=⟨[.bool],[]⟩) Tryz.f108 zJ (by kernel_rfl) (by kernel_rfl) fun x=>by kernel_rfl
theorem IJ:zn Tryz.prog (XD qR):=
 okC (A:=⟨[DU strings_TrimPrefix,Eu ZY],[],[],0,[],[],[]⟩) (exS:=⟨[.bool],[]⟩) Tryz.f100 (memC zeZ (memC uy zJ)) (by kernel_rfl) (by kernel_rfl) fun x=>by kernel_rfl
theorem ZR:zn Tryz.prog (ZA strings_HasPrefix):=
 okC (A:=⟨[Qv stringslite_HasPrefix],[],[],0,[],[],[]⟩) (exS:=⟨[.bool],[]⟩) Tryz.f76 (memC GU zJ) (by kernel_rfl) (by kernel_rfl) fun x=>by kernel_rfl
theorem uS:zn Tryz.prog (EJ yt):=
 okC (A:=⟨[],[],[],0,[],[],[]⟩) (exS:=⟨[.bool],[]⟩) Tryz.f141 zJ (by kernel_rfl) (by kernel_rfl) fun x=>by kernel_rfl
theorem bI:zn Tryz.prog (GD QG):=
 okC (A:=⟨[EJ yt,Eu ZY],[],[],0,[],[],[]⟩) (exS:=⟨[.bool],[]⟩) Tryz.f105 (memC uS (memC uy zJ)) (by kernel_rfl) (by kernel_rfl) fun x=>by kernel_rfl
theorem zgz:zn Tryz.prog (uT strings_Contains):=
 okC (A:=⟨[KG Gl],[],[],0,[],[],[]⟩) (exS:=⟨[.bool],[]⟩) Tryz.f106 (memC xO zJ) (by kernel_rfl) (by kernel_rfl) fun x=>by kernel_rfl
theorem BR:zn Tryz.prog (OI Pp):=
 okC (A:=⟨[ZW strings_IndexByte,XD qR,ZA strings_HasPrefix,GD QG,uT strings_Contains],[],[],0,[],[(8,⟨[3,4,5,6,7,25],⟨[.bool, .bool, .bool, .bool, .bool, .bool],[]⟩,[1,16],[],[],0,[],⟨[],[]⟩,[]⟩),(14,⟨[3,4,5,6,7,63],⟨[.bool, .bool, .bool, .bool, .bool, .bool],[]⟩,[],[],[],0,[],⟨[],[]⟩,[]⟩),(22,⟨[4,5,6,7,94],⟨[.bool, .bool, .bool, .bool, .bool],[]⟩,[3],[],[],0,[],⟨[],[]⟩,[]⟩),(24,⟨[3,4,5,6,7],⟨[.bool, .bool, .bool, .bool, .bool],[]⟩,[1],[0],[],0,[],⟨[],[]⟩,[]⟩)],[]⟩) (exS:=⟨[.bool],[]⟩) Tryz.f58 (memC qx (memC IJ (memC ZR (memC bI (memC zgz zJ))))) (by kernel_rfl) (by kernel_rfl) fun x=>by kernel_rfl
theorem zkX:zn Tryz.prog (nS ZT):=
 okC (A:=⟨[],[],[],1,[],[],[]⟩) (exS:=⟨[.bool],[]⟩) Tryz.f97 zJ (by kernel_rfl) (by kernel_rfl) fun x=>by kernel_rfl
theorem zl4:zn Tryz.prog (SS ut):=
 okC (A:=⟨[],[],[],0,[(3,⟨[10],⟨[.int .i64],[(0, .sl 5)]⟩,[2,3,8,9],[],[0],0,[],⟨[],[(0, .sl 5)]⟩,[0]⟩)],[(7,⟨[10],⟨[.int .i64],[(0, .sl 5)]⟩,[],[],[0],0,[],⟨[],[]⟩,[]⟩)],[]⟩) (exS:=⟨[.str],[]⟩) Tryz.f77 zJ (by kernel_rfl) (by kernel_rfl) fun x=>by kernel_rfl
theorem CS:zn Tryz.prog (BJ Gq):=
 okC (A:=⟨[SS ut],[],[],0,[],[],[]⟩) (exS:=⟨[.bool],[]⟩) Tryz.f78 (memC zl4 zJ) (by kernel_rfl) (by kernel_rfl) fun x=>by kernel_rfl
theorem dR:zn Tryz.prog (XI QH):=
 okC (A:=⟨[nS ZT,BJ Gq],[],[],0,[],[(11,⟨[5],⟨[.int .i64],[]⟩,[3],[0],[],0,[],⟨[],[]⟩,[]⟩)],[]⟩) (exS:=⟨[.int .i64],[]⟩) Tryz.f53 (memC zkX (memC CS zJ)) (by kernel_rfl) (by kernel_rfl) fun x=>by kernel_rfl
theorem jR:zn Tryz.prog (aI Yp):=
 okC (A:=⟨[OI Pp,XI QH],[],[],0,[(4,⟨[10],⟨[.int .i64],[]⟩,[0,8,9],[],[],0,[],⟨[],[]⟩,[]⟩)],[],[]⟩) (exS:=⟨[.int .i64],[]⟩) Tryz.f26 (memC BR (memC dR zJ)) (by kernel_rfl) (by kernel_rfl) fun x=>by kernel_rfl
theorem dI:zn Tryz.prog (JD ZF):=
 okC (A:=⟨[ZA strings_HasPrefix],[],[],0,[],[],[]⟩) (exS:=⟨[.int .i64],[]⟩) Tryz.f61 (memC ZR zJ) (by kernel_rfl) (by kernel_rfl) fun x=>by kernel_rfl
theorem aD:zn Tryz.prog (QN Za):=
 okC (A:=⟨[Eu ZY,EJ yt,uP uo],[(2,[2]),(3,[1]),(5,[1])],[],1,[],[],[]⟩) (exS:=⟨[.own 1],[(1, .sl 5)]⟩) Tryz.f98 (memC uy (memC uS (memC P6 zJ))) (by kernel_rfl) (by kernel_rfl) fun x=>by kernel_rfl
theorem sS:zn Tryz.prog (DJ qY):=
 okC (A:=⟨[GD QG,Eu ZY,QN Za],[(6,[2])],[],0,[(2,⟨[0,11],⟨[.own 1002, .int .i64],[(1002, .sl 5)]⟩,[1,2,6,10],[],[],0,[0],⟨[.own 1002],[(1002, .sl 5)]⟩,[1002]⟩)],[(8,⟨[0,11],⟨[.own 1104, .int .i64],[(1104, .sl 5)]⟩,[],[],[],0,[],⟨[],[]⟩,[]⟩)],[]⟩) (exS:=⟨[.own 0],[(0, .sl 5)]⟩) Tryz.f60 (memC bI (memC uy (memC aD zJ))) (by kernel_rfl) (by kernel_rfl) fun x=>by kernel_rfl
theorem JS:zn Tryz.prog (CJ Zk):=
 okC (A:=⟨[GD QG,Eu ZY,QN Za],[(6,[2])],[],1,[(2,⟨[0,11],⟨[.own 1106, .int .i64],[(1106, .sl 5)]⟩,[1,2,6,10],[],[],0,[0],⟨[.own 1106],[(1106, .sl 5)]⟩,[1106]⟩)],[(8,⟨[0,11],⟨[.own 1208, .int .i64],[(1208, .sl 5)]⟩,[],[],[],0,[],⟨[],[]⟩,[]⟩)],[]⟩) (exS:=⟨[.own 1],[(1, .sl 5)]⟩) Tryz.f60 (memC bI (memC uy (memC aD zJ))) (by kernel_rfl) (by kernel_rfl) fun x=>by kernel_rfl
theorem zi1:zn Tryz.prog (OT qP):=
 okC (A:=⟨[wH Dj,UH Bj,JG ji],[(2,[1]),(6,[1])],[],0,[],[(3,⟨[0,1],⟨[.own 1417, .int .i64],[(1417, .sl 5)]⟩,[2],[],[],0,[],⟨[],[]⟩,[]⟩),(9,⟨[0],⟨[.own 1520],[(1520, .sl 5)]⟩,[],[],[],0,[],⟨[],[]⟩,[]⟩)],[]⟩) (exS:=⟨[.own 0],[(0, .sl 5)]⟩) Tryz.f99 (memC VQ (memC BQ (memC wO zJ))) (by kernel_rfl) (by kernel_rfl) fun x=>by kernel_rfl
theorem iR:zn Tryz.prog (YI Xp):=
 okC (A:=⟨[],[],[],0,[],[],[]⟩) (exS:=⟨[.optr 0],[(0, .row 130)]⟩) Tryz.f101 zJ (by kernel_rfl) (by kernel_rfl) fun x=>by kernel_rfl
theorem zl2:zn Tryz.prog (WS Oy):=
 okC (A:=⟨[JD ZF,DJ qY,CJ Zk,ZW strings_IndexByte,QN Za,OT qP,XD qR,ZA strings_HasPrefix,YI Xp],[(5,[7]),(7,[1]),(12,[1]),(14,[1]),(20,[2]),(22,[1]),(30,[2]),(32,[1]),(38,[4])],[],0,[(16,⟨[0,67],⟨[.own 1210, .int .i64],[(1210, .sl 5)]⟩,[3,4,65,66],[0,3],[],1,[0],⟨[.own 1210],[(1210, .sl 5)]⟩,[1210]⟩),(26,⟨[0,93],⟨[.own 1314, .int .i64],[(1314, .sl 5)]⟩,[3,4,91,92],[0,2],[],3,[0],⟨[.own 1314],[(1314, .sl 5)]⟩,[1314]⟩)],[(12,⟨[5],⟨[.int .i64],[]⟩,[0,3],[0],[],0,[],⟨[],[]⟩,[]⟩),(21,⟨[0,67],⟨[.own 1312, .int .i64],[(1312, .sl 5)]⟩,[],[],[],0,[],⟨[],[]⟩,[]⟩),(31,⟨[0,93],⟨[.own 1416, .int .i64],[(1416, .sl 5)]⟩,[],[],[],0,[],⟨[],[]⟩,[]⟩)],[]⟩) (exS:=⟨[.own 0],[(0, .sl 5)]⟩) Tryz.f54 (memC dI (memC sS (memC JS (memC qx (memC aD (memC zi1 (memC IJ (memC ZR (memC iR zJ))))))))) (by kernel_rfl) (by kernel_rfl) fun x=>by kernel_rfl
theorem zi2:zn Tryz.prog (NT qQ):=
 okC (A:=⟨[wH Dj,UH Bj,JG ji],[(2,[1]),(6,[1])],[],1,[],[(3,⟨[0,1],⟨[.own 1730, .int .i64],[(1730, .sl 5)]⟩,[2],[],[],0,[],⟨[],[]⟩,[]⟩),(9,⟨[0],⟨[.own 1833],[(1833, .sl 5)]⟩,[],[],[],0,[],⟨[],[]⟩,[]⟩)],[]⟩) (exS:=⟨[.own 1],[(1, .sl 5)]⟩) Tryz.f99 (memC VQ (memC BQ (memC wO zJ))) (by kernel_rfl) (by kernel_rfl) fun x=>by kernel_rfl
theorem zl3:zn Tryz.prog (VS QR):=
 okC (A:=⟨[JD ZF,CJ Zk,ZW strings_IndexByte,QN Za,NT qQ,XD qR,ZA strings_HasPrefix,YI Xp],[(5,[7]),(7,[1]),(12,[1]),(14,[1]),(20,[2]),(22,[1]),(30,[2]),(32,[1]),(38,[4])],[],1,[(16,⟨[0,67],⟨[.own 1523, .int .i64],[(1523, .sl 5)]⟩,[3,4,65,66],[1,4],[],1,[0],⟨[.own 1523],[(1523, .sl 5)]⟩,[1523]⟩),(26,⟨[0,93],⟨[.own 1627, .int .i64],[(1627, .sl 5)]⟩,[3,4,91,92],[1,3],[],3,[0],⟨[.own 1627],[(1627, .sl 5)]⟩,[1627]⟩)],[(12,⟨[5],⟨[.int .i64],[(0, .sl 5)]⟩,[0,3],[1],[0],0,[],⟨[],[]⟩,[]⟩),(21,⟨[0,67],⟨[.own 1625, .int .i64],[(1625, .sl 5)]⟩,[],[],[],0,[],⟨[],[]⟩,[]⟩),(31,⟨[0,93],⟨[.own 1729, .int .i64],[(1729, .sl 5)]⟩,[],[],[],0,[],⟨[],[]⟩,[]⟩)],[]⟩) (exS:=⟨[.own 1],[(1, .sl 5)]⟩) Tryz.f54 (memC dI (memC JS (memC qx (memC aD (memC zi2 (memC IJ (memC ZR (memC iR zJ)))))))) (by kernel_rfl) (by kernel_rfl) fun x=>by kernel_rfl
theorem zdp:zn Tryz.prog (IU Zl):=
 okC (A:=⟨[ZA strings_HasPrefix,KG Gl],[],[],1,[(0,⟨[],⟨[],[(0, .row 100)]⟩,[0],[],[0],0,[],⟨[],[(0, .row 100)]⟩,[0]⟩)],[],[]⟩) (exS:=⟨[],[(0, .row 100)]⟩) Tryz.f103 (memC ZR (memC xO zJ)) (by kernel_rfl) (by kernel_rfl) fun x=>by kernel_rfl
theorem zx:zn Tryz.prog (zw zf):=
 okC (A:=⟨[],[],[],1,[],[],[]⟩) (exS:=⟨[.int .i64],[]⟩) Tryz.f116 zJ (by kernel_rfl) (by kernel_rfl) fun x=>by kernel_rfl
theorem Yy:zn Tryz.prog (Q0 ql):=
 okC (A:=⟨[],[],[],0,[],[],[]⟩) (exS:=⟨[.bool],[]⟩) Tryz.f150 zJ (by kernel_rfl) (by kernel_rfl) fun x=>by kernel_rfl
theorem QK:zn Tryz.prog (qN zS):=
 okC (A:=⟨[zw zf,Q0 ql],[],[],1,[(0,⟨[],⟨[],[(0, .row 100)]⟩,[0,1],[],[0],0,[],⟨[],[(0, .row 100)]⟩,[0]⟩)],[],[]⟩) (exS:=⟨[],[(0, .row 100)]⟩) Tryz.f118 (memC zx (memC Yy zJ)) (by kernel_rfl) (by kernel_rfl) fun x=>by kernel_rfl
theorem zcm:zn Tryz.prog (QP Z9):=
 okC (A:=⟨[],[(2,[1]),(4,[9]),(7,[14]),(9,[19])],[],0,[],[(7,⟨[25],⟨[.bool],[]⟩,[0,1,5],[],[],0,[],⟨[],[]⟩,[]⟩)],[]⟩) (exS:=⟨[.own 0],[(0, .sl 5)]⟩) Tryz.f202 zJ (by kernel_rfl) (by kernel_rfl) fun x=>by kernel_rfl
theorem zfR:zn Tryz.prog (iT Z4):=
 okC (A:=⟨[QP Z9],[(2,[3])],[],0,[],[],[]⟩) (exS:=⟨[.own 0],[(0, .sl 5)]⟩) Tryz.f167 (memC zcm zJ) (by kernel_rfl) (by kernel_rfl) fun x=>by kernel_rfl
theorem LD:zn Tryz.prog (iy ZV):=
 okC (A:=⟨[],[],[],0,[],[],[]⟩) (exS:=⟨[.bool],[]⟩) Tryz.f158 zJ (by kernel_rfl) (by kernel_rfl) fun x=>by kernel_rfl
theorem ay:zn Tryz.prog (QZ Zu):=
 okC (A:=⟨[iy ZV],[],[],0,[],[],[]⟩) (exS:=⟨[.bool],[]⟩) Tryz.f117 (memC LD zJ) (by kernel_rfl) (by kernel_rfl) fun x=>by kernel_rfl
theorem xQ:zn Tryz.prog (KI um):=
 okC (A:=⟨[QZ Zu,iy ZV],[],[],0,[],[],[]⟩) (exS:=⟨[.int .i64],[]⟩) Tryz.f168 (memC ay (memC LD zJ)) (by kernel_rfl) (by kernel_rfl) fun x=>by kernel_rfl
theorem zc0:zn Tryz.prog (FU ZQ):=
 okC (A:=⟨[zw zf,iT Z4,KI um,Q0 ql],[(7,[3])],[],1,[(10,⟨[6,36],⟨[.int .i64, .int .i64],[(0, .row 100)]⟩,[0,1,4],[],[0],0,[6],⟨[.int .i64],[(0, .row 100)]⟩,[0]⟩)],[(17,⟨[6],⟨[.int .i64],[(0, .row 100)]⟩,[1],[],[0],0,[],⟨[],[]⟩,[]⟩),(19,⟨[6],⟨[.int .i64],[]⟩,[],[0],[],0,[],⟨[],[]⟩,[]⟩)],[]⟩) (exS:=⟨[.own 1],[(0, .row 100),(1, .sl 5)]⟩) Tryz.f125 (memC zx (memC zfR (memC xQ (memC Yy zJ)))) (by kernel_rfl) (by kernel_rfl) fun x=>by kernel_rfl
theorem zcn:zn Tryz.prog (QQ qa):=
 okC (A:=⟨[],[(2,[1]),(4,[9]),(7,[14]),(9,[19])],[],1,[],[(7,⟨[25],⟨[.bool],[(0, .sl 5)]⟩,[0,1,5],[],[0],0,[],⟨[],[]⟩,[]⟩)],[]⟩) (exS:=⟨[.own 1],[(1, .sl 5)]⟩) Tryz.f202 zJ (by kernel_rfl) (by kernel_rfl) fun x=>by kernel_rfl
theorem zfS:zn Tryz.prog (gT Z5):=
 okC (A:=⟨[QQ qa],[(2,[3])],[],1,[],[],[]⟩) (exS:=⟨[.own 1],[(1, .sl 5)]⟩) Tryz.f167 (memC zcn zJ) (by kernel_rfl) (by kernel_rfl) fun x=>by kernel_rfl
theorem qL:zn Tryz.prog (Z8 zO):=
 okC (A:=⟨[zw zf,gT Z5,KI um,Q0 ql],[(7,[3])],[],2,[(10,⟨[6,36],⟨[.int .i64, .int .i64],[(0, .row 100)]⟩,[0,1,4],[1],[0],0,[6],⟨[.int .i64],[(0, .row 100)]⟩,[0]⟩)],[(17,⟨[6],⟨[.int .i64],[(0, .row 100),(1, .sl 5)]⟩,[1],[],[0,1],0,[],⟨[],[]⟩,[]⟩),(19,⟨[6],⟨[.int .i64],[(1, .sl 5)]⟩,[],[0],[1],0,[],⟨[],[]⟩,[]⟩)],[]⟩) (exS:=⟨[.own 2],[(0, .row 100),(2, .sl 5)]⟩) Tryz.f125 (memC zx (memC zfS (memC xQ (memC Yy zJ)))) (by kernel_rfl) (by kernel_rfl) fun x=>by kernel_rfl
theorem zeg:zn Tryz.prog (wT qy):=
 okC (A:=⟨[zw zf,Z8 zO],[(5,[3])],[],1,[(4,⟨[4],⟨[.own 1835],[(0, .row 100),(1, .row 51),(1835, .sl 5)]⟩,[0,2,3],[],[0,1],0,[4],⟨[.own 1835],[(0, .row 100),(1, .row 51),(1835, .sl 5)]⟩,[0,1,1835]⟩)],[],[]⟩) (exS:=⟨[.optr 1],[(0, .row 100),(1, .row 51)]⟩) Tryz.f151 (memC zx (memC qL zJ)) (by kernel_rfl) (by kernel_rfl) fun x=>by kernel_rfl
theorem xR:zn Tryz.prog (xI Cq):=
 okC (A:=⟨[iy ZV],[],[],0,[],[],[]⟩) (exS:=⟨[.bool],[]⟩) Tryz.f122 (memC LD zJ) (by kernel_rfl) (by kernel_rfl) fun x=>by kernel_rfl
theorem eT:zn Tryz.prog (uI Bu):=
 okC (A:=⟨[xI Cq,QZ Zu],[],[],0,[],[],[]⟩) (exS:=⟨[.bool],[]⟩) Tryz.f124 (memC xR (memC ay zJ)) (by kernel_rfl) (by kernel_rfl) fun x=>by kernel_rfl
theorem ZO:zn Tryz.prog (Zx zt):=
 okC (A:=⟨[zw zf],[],[],1,[],[],[]⟩) (exS:=⟨[.bool],[]⟩) Tryz.f123 (memC zx zJ) (by kernel_rfl) (by kernel_rfl) fun x=>by kernel_rfl
theorem AU:zn Tryz.prog (JJ zH):=
 okC (A:=⟨[zw zf,xI Cq,Zx zt],[],[],1,[],[],[]⟩) (exS:=⟨[.bool],[]⟩) Tryz.f69 (memC zx (memC xR (memC ZO zJ))) (by kernel_rfl) (by kernel_rfl) fun x=>by kernel_rfl
theorem QV:zn Tryz.prog (Qd zL):=
 okC (A:=⟨[zw zf,uI Bu,Zx zt,Z8 zO],[(5,[3])],[],1,[(2,⟨[3],⟨[.own 1836],[(0, .row 100),(1836, .sl 5)]⟩,[0],[],[0],0,[],⟨[],[]⟩,[]⟩)],[],[]⟩) (exS:=⟨[.str],[(0, .row 100)]⟩) Tryz.f70 (memC zx (memC eT (memC ZO (memC qL zJ)))) (by kernel_rfl) (by kernel_rfl) fun x=>by kernel_rfl
theorem zef:zn Tryz.prog (yT Zv):=
 okC (A:=⟨[zw zf,QZ Zu],[],[],1,[],[(5,⟨[3],⟨[.int .i64],[]⟩,[0],[],[],0,[],⟨[],[]⟩,[]⟩),(7,⟨[3],⟨[.int .i64],[]⟩,[],[],[],0,[],⟨[],[]⟩,[]⟩)],[]⟩) (exS:=⟨[.bool],[]⟩) Tryz.f66 (memC zx (memC ay zJ)) (by kernel_rfl) (by kernel_rfl) fun x=>by kernel_rfl
theorem zdE:zn Tryz.prog (KU zQ):=
 okC (A:=⟨[zw zf,QZ Zu],[],[],1,[(0,⟨[],⟨[],[(0, .row 100)]⟩,[0,1],[],[0],0,[],⟨[],[(0, .row 100)]⟩,[0]⟩)],[],[]⟩) (exS:=⟨[],[(0, .row 100)]⟩) Tryz.f118 (memC zx (memC ay zJ)) (by kernel_rfl) (by kernel_rfl) fun x=>by kernel_rfl
theorem zdC:zn Tryz.prog (MU qc):=
 okC (A:=⟨[zw zf,KU zQ,QZ Zu],[],[],1,[],[(4,⟨[],⟨[],[(0, .row 100)]⟩,[0],[],[0],0,[],⟨[],[]⟩,[]⟩),(10,⟨[4],⟨[.bool],[(0, .row 100)]⟩,[],[],[0],0,[],⟨[],[]⟩,[]⟩),(15,⟨[4,5],⟨[.bool, .int .i64],[(0, .row 100)]⟩,[],[],[0],0,[],⟨[],[]⟩,[]⟩),(19,⟨[4],⟨[.bool],[(0, .row 100)]⟩,[],[],[0],0,[],⟨[],[]⟩,[]⟩)],[]⟩) (exS:=⟨[.bool],[(0, .row 100)]⟩) Tryz.f67 (memC zx (memC zdE (memC ay zJ))) (by kernel_rfl) (by kernel_rfl) fun x=>by kernel_rfl
theorem zfQ:zn Tryz.prog (jT Z0):=
 okC (A:=⟨[YN Oj,mQ QS,sJ cutF],[],[],0,[(8,⟨[6,31],⟨[.int .i64, .int .i64],[]⟩,[0,2,3,4,5,29,30],[0],[],0,[6],⟨[.int .i64],[]⟩,[]⟩),(22,⟨[12,81],⟨[.int .i64, .int .i64],[]⟩,[4,79,80],[0],[],2,[12],⟨[.int .i64],[]⟩,[]⟩),(26,⟨[4,12],⟨[.int .i64, .int .i64],[]⟩,[],[],[],4,[12],⟨[.int .i64],[]⟩,[]⟩)],[(14,⟨[0,4,6],⟨[.str, .int .i64, .int .i64],[]⟩,[3,5],[],[],0,[],⟨[],[]⟩,[]⟩),(15,⟨[0,4],⟨[.str, .int .i64],[]⟩,[3],[],[],0,[],⟨[],[]⟩,[]⟩),(20,⟨[0,4],⟨[.str, .int .i64],[]⟩,[],[],[],0,[],⟨[],[]⟩,[]⟩),(31,⟨[12],⟨[.int .i64],[]⟩,[],[],[],0,[],⟨[],[]⟩,[]⟩)],[]⟩) (exS:=⟨[.int .i64],[]⟩) Tryz.f68 (memC HY (memC l7 (memC zAO zJ))) (by kernel_rfl) (by kernel_rfl) fun x=>by kernel_rfl
theorem zdD:zn Tryz.prog (LU ZI):=
 okC (A:=⟨[MU qc,jT Z0,JJ zH,Qd zL,zw zf],[],[],1,[],[(9,⟨[],⟨[],[(0, .row 100),(1, .row 51),(2, .row 51)]⟩,[2,5],[],[0,1,2],0,[],⟨[],[]⟩,[]⟩)],[]⟩) (exS:=⟨[.optr 1],[(0, .row 100),(1, .row 51)]⟩) Tryz.f152 (memC zdC (memC zfQ (memC AU (memC QV (memC zx zJ))))) (by kernel_rfl) (by kernel_rfl) fun x=>by kernel_rfl
theorem zfO:zn Tryz.prog (lT ZZ):=
 okC (A:=⟨[zw zf,Zx zt,FU ZQ],[],[],1,[(1,⟨[],⟨[],[(0, .row 100),(1, .row 51)]⟩,[0,2],[],[0,1],0,[],⟨[],[]⟩,[]⟩)],[],[]⟩) (exS:=⟨[.optr 1],[(0, .row 100),(1, .row 51)]⟩) Tryz.f216 (memC zx (memC ZO (memC zc0 zJ))) (by kernel_rfl) (by kernel_rfl) fun x=>by kernel_rfl
theorem zfP:zn Tryz.prog (kT Qn):=
 okC (A:=⟨[qN zS,zw zf,Q0 ql,lT ZZ,iy ZV,Zx zt,Z8 zO],[(18,[3])],[],1,[(3,⟨[3],⟨[.own 1837],[(0, .row 100),(1, .row 51),(1837, .sl 5)]⟩,[0,2],[],[0,1],0,[],⟨[],[]⟩,[]⟩)],[(10,⟨[3,4],⟨[.own 1837, .int .i64],[(0, .row 100),(1, .row 51),(1837, .sl 5)]⟩,[],[],[0,1,1837],0,[],⟨[],[]⟩,[]⟩)],[]⟩) (exS:=⟨[.optr 1],[(0, .row 100),(1, .row 51)]⟩) Tryz.f196 (memC QK (memC zx (memC Yy (memC zfO (memC LD (memC ZO (memC qL zJ))))))) (by kernel_rfl) (by kernel_rfl) fun x=>by kernel_rfl
theorem zeq:zn Tryz.prog (BU ZC):=
 okC (A:=⟨[Qd zL,zw zf,BJ Gq,qN zS,kT Qn],[],[],1,[],[(11,⟨[],⟨[],[(0, .row 100),(1, .row 51)]⟩,[2,3],[],[0,1],0,[],⟨[],[]⟩,[]⟩)],[]⟩) (exS:=⟨[.optr 1],[(0, .row 100),(1, .row 51)]⟩) Tryz.f153 (memC QV (memC zx (memC CS (memC QK (memC zfP zJ))))) (by kernel_rfl) (by kernel_rfl) fun x=>by kernel_rfl
theorem ze1:zn Tryz.prog (CU qh):=
 okC (A:=⟨[zw zf,Q0 ql,qN zS,wT qy,uI Bu,Zx zt,JJ zH,Qd zL,yT Zv,LU ZI,ZA strings_HasPrefix,BU ZC,ZW strings_IndexByte],[],[],1,[],[],[]⟩) (exS:=⟨[.optr 1],[(0, .row 100),(1, .row 51)]⟩) Tryz.f104 (memC zx (memC Yy (memC QK (memC zeg (memC eT (memC ZO (memC AU (memC QV (memC zef (memC zdD (memC ZR (memC zeq (memC qx zJ))))))))))))) (by kernel_rfl) (by kernel_rfl) fun x=>by kernel_rfl
theorem zgA:zn Tryz.prog (tT QB):=
 okC (A:=⟨[],[(1,[2])],[],2,[],[],[]⟩) (exS:=⟨[],[(0, .cells 41 [.own 2]),(2, .sl 51)]⟩) Tryz.f57 zJ (by kernel_rfl) (by kernel_rfl) fun x=>by kernel_rfl
theorem zk5:zn Tryz.prog (DT Sy):=
 okC (A:=⟨[aN Il,IU Zl,CU qh,tT QB],[],[],1,[(7,⟨[7],⟨[.int .i64],[(0, .cells 41 [.own 1838]),(1838, .sl 51),(1, .row 100)]⟩,[0,1,6],[],[0,1],0,[],⟨[],[(0, .cells 41 [.own 1838]),(1838, .sl 51),(1, .row 100)]⟩,[0,1,1838]⟩)],[],[]⟩) (exS:=⟨[.int .i64],[(0, .cells 41 [.own 1]),(1, .sl 51)]⟩) Tryz.f56 (memC IY (memC zdp (memC ze1 (memC zgA zJ)))) (by kernel_rfl) (by kernel_rfl) fun x=>by kernel_rfl
theorem zk4:zn Tryz.prog (FT Ty):=
 okC (A:=⟨[DT Sy],[],[],0,[],[],[]⟩) (exS:=⟨[.sl 51, .int .i64],[]⟩) Tryz.f24 (memC zk5 zJ) (by kernel_rfl) (by kernel_rfl) fun x=>by kernel_rfl
theorem zeY:zn Tryz.prog (EU qg):=
 okC (A:=⟨[],[],[],0,[(4,⟨[13],⟨[.int .i64],[]⟩,[0,1,12],[],[],0,[],⟨[],[]⟩,[]⟩)],[],[]⟩) (exS:=⟨[.bool],[]⟩) Tryz.f55 zJ (by kernel_rfl) (by kernel_rfl) fun x=>by kernel_rfl
theorem G9:zn Tryz.prog (WR Yx):=
 okC (A:=⟨[aI Yp,XI QH,VS QR,FT Ty,EU qg],[(24,[5])],[],0,[(7,⟨[5,6,7],⟨[.own 1940, .own 1941, .int .i64],[(1940, .sl 5),(1941, .sl 89)]⟩,[0],[],[],0,[5],⟨[.own 1940],[(1940, .sl 5)]⟩,[1940]⟩),(11,⟨[9,36],⟨[.own 1521, .int .i64],[(1521, .sl 5)]⟩,[5,6,7,8,34,35],[1940,1941],[],2,[9],⟨[.own 1521],[(1521, .sl 5)]⟩,[1521]⟩)],[(17,⟨[5,6,7,9],⟨[.own 1940, .own 1941, .int .i64, .own 2043],[(1940, .sl 5),(1941, .sl 89),(2043, .sl 5)]⟩,[8],[],[1940,1941],0,[],⟨[],[]⟩,[]⟩),(21,⟨[5,6,7],⟨[.own 1940, .own 1941, .int .i64],[(1940, .sl 5),(1941, .sl 89),(2044, .row 89)]⟩,[9,12],[2043],[1940,1941,2044],0,[],⟨[],[]⟩,[]⟩),(24,⟨[5,6,7],⟨[.own 2148, .own 1941, .int .i64],[(1941, .sl 89),(2148, .sl 5)]⟩,[],[2044],[1941],0,[],⟨[],[]⟩,[]⟩)],[]⟩) (exS:=⟨[.str, .int .i64],[]⟩) Tryz.f23 (memC jR (memC dR (memC zl3 (memC zk4 (memC zeY zJ))))) (by kernel_rfl) (by kernel_rfl) fun x=>by kernel_rfl
theorem E9:zn Tryz.prog (UR Hy):=
 okC (A:=⟨[],[],[],0,[(4,⟨[5],⟨[.int .i64],[]⟩,[0,1],[],[],0,[],⟨[],[]⟩,[]⟩)],[],[]⟩) (exS:=⟨[.bool],[]⟩) Tryz.f25 zJ (by kernel_rfl) (by kernel_rfl) fun x=>by kernel_rfl
theorem O6:zn Tryz.prog (sP ow):=
 okC (A:=⟨[OI Pp,WS Oy],[],[],0,[],[],[]⟩) (exS:=⟨[.str, .int .i64],[]⟩) Tryz.f34 (memC BR (memC zl2 zJ)) (by kernel_rfl) (by kernel_rfl) fun x=>by kernel_rfl
theorem u7:zn Tryz.prog (nQ Lx):=
 okC (A:=⟨[ZW strings_IndexByte,JD ZF,DJ qY],[],[],0,[],[],[]⟩) (exS:=⟨[.str, .int .i64],[]⟩) Tryz.f32 (memC qx (memC dI (memC sS zJ))) (by kernel_rfl) (by kernel_rfl) fun x=>by kernel_rfl
theorem FJ:zn Tryz.prog (UD qD):=
 okC (A:=⟨[QY ZP,ZL zB],[(3,[1])],[],0,[],[(7,⟨[4],⟨[.str],[]⟩,[],[],[],0,[],⟨[],[]⟩,[]⟩)],[]⟩) (exS:=⟨[.str],[]⟩) Tryz.f115 (memC gy (memC ZJ zJ)) (by kernel_rfl) (by kernel_rfl) fun x=>by kernel_rfl
theorem nI:zn Tryz.prog (DD ZB):=
 okC (A:=⟨[ny ZH,ZL zB,UD qD],[],[],0,[(3,⟨[5,6],⟨[.str, .int .i64],[]⟩,[0,1,4],[],[],0,[5],⟨[.str],[]⟩,[]⟩)],[(4,⟨[5,6],⟨[.str, .int .i64],[]⟩,[],[],[],0,[],⟨[],[]⟩,[]⟩),(10,⟨[5,9],⟨[.str, .bool],[]⟩,[6,7],[],[],0,[],⟨[],[]⟩,[]⟩)],[]⟩) (exS:=⟨[.str],[]⟩) Tryz.f65 (memC ND (memC ZJ (memC FJ zJ))) (by kernel_rfl) (by kernel_rfl) fun x=>by kernel_rfl
theorem zk3:zn Tryz.prog (KT Cu):=
 okC (A:=⟨[UD qD],[],[],0,[(3,⟨[5,6],⟨[.str, .int .i64],[]⟩,[0,1,4],[],[],0,[5],⟨[.str],[]⟩,[]⟩)],[(4,⟨[5,6],⟨[.str, .int .i64],[]⟩,[],[],[],0,[],⟨[],[]⟩,[]⟩),(9,⟨[5,8],⟨[.str, .bool],[]⟩,[6,7],[],[],0,[],⟨[],[]⟩,[]⟩)],[]⟩) (exS:=⟨[.str],[]⟩) Tryz.f110 (memC FJ zJ) (by kernel_rfl) (by kernel_rfl) fun x=>by kernel_rfl
theorem S9(qb:Int->Option Str)(hs:zn Tryz.prog (ky qb)):zn Tryz.prog (ky (RD qb)):=
 okC (A:=⟨[ky qb],[],[],0,[],[],[]⟩) (exS:=⟨[.str],[]⟩) Tryz.f155 (memC hs zJ) (by kernel_rfl) (by kernel_rfl) fun x=>by kernel_rfl
theorem zk1:zn Tryz.prog (ky qb):=
 zn.recE (I:=I) (P:=Tryz.prog) (f:=155) (inS:=⟨[.int .i64],[]⟩) (cst:=[]) (outS:=⟨[.str],[]⟩) (k:=0) (RD) (by kernel_rfl) (fun S h=>S9 S h)
theorem R9(ZU:Int×Bool->Option Str)(hs:zn Tryz.prog (jy ZU)):zn Tryz.prog (jy (PD ZU)):=
 okC (A:=⟨[jy ZU,ky qb],[],[],0,[(10,⟨[7],⟨[.str],[]⟩,[4,5],[],[],0,[7],⟨[.str],[]⟩,[]⟩)],[],[]⟩) (exS:=⟨[.str],[]⟩) Tryz.f111 (memC hs (memC zk1 zJ)) (by kernel_rfl) (by kernel_rfl) fun x=>by kernel_rfl
theorem zk2:zn Tryz.prog (jy ZU):=
 zn.recE (I:=I) (P:=Tryz.prog) (f:=111) (inS:=⟨[.int .i64, .bool],[]⟩) (cst:=[]) (outS:=⟨[.str],[]⟩) (k:=0) (PD) (by kernel_rfl) (fun S h=>R9 S h)
theorem M9:zn Tryz.prog (JR Ay):=
 okC (A:=⟨[QY ZP,qM zD,ZL zB,UD qD,ny ZH,DD ZB],[],[],0,[(4,⟨[3,4],⟨[.str, .int .i64],[]⟩,[0,2],[],[],0,[3],⟨[.str],[]⟩,[]⟩)],[(5,⟨[3,4],⟨[.str, .int .i64],[]⟩,[],[],[],0,[],⟨[],[]⟩,[]⟩)],[]⟩) (exS:=⟨[.str],[]⟩) Tryz.f112 (memC gy (memC qH (memC ZJ (memC FJ (memC ND (memC nI zJ)))))) (by kernel_rfl) (by kernel_rfl) fun x=>by kernel_rfl
theorem YR:zn Tryz.prog (jI Q6):=
 okC (A:=⟨[DD ZB,KT Cu,jy ZU,JR Ay],[(22,[0])],[],0,[],[],[]⟩) (exS:=⟨[.str],[]⟩) Tryz.f63 (memC nI (memC zk3 (memC zk2 (memC M9 zJ)))) (by kernel_rfl) (by kernel_rfl) fun x=>by kernel_rfl
theorem p9:zn Tryz.prog (KS Jy):=
 okC (A:=⟨[FD qI,jI Q6],[],[],0,[(6,⟨[5,6],⟨[.int .i64, .str],[]⟩,[0,2,3],[],[],0,[5,6],⟨[.int .i64, .str],[]⟩,[]⟩)],[],[]⟩) (exS:=⟨[.int .i64, .str],[]⟩) Tryz.f109 (memC pI (memC YR zJ)) (by kernel_rfl) (by kernel_rfl) fun x=>by kernel_rfl
theorem F9:zn Tryz.prog (VR Bq):=
 okC (A:=⟨[MI Uk],[],[],0,[(1,⟨[1],⟨[.int .i64],[]⟩,[0,4],[],[],0,[1],⟨[.int .i64],[]⟩,[]⟩),(3,⟨[1],⟨[.int .i64],[]⟩,[],[],[],2,[1],⟨[.int .i64],[]⟩,[]⟩)],[],[]⟩) (exS:=⟨[.int .i64],[]⟩) Tryz.f138 (memC yQ zJ) (by kernel_rfl) (by kernel_rfl) fun x=>by kernel_rfl
theorem I8:zn Tryz.prog (lQ Wx):=
 okC (A:=⟨[VR Bq,NI Yl],[(6,[2,8])],[],0,[(4,⟨[4,5,6],⟨[.own 2149, .own 2150, .int .i64],[(2149, .sl 51),(2150, .sl 151)]⟩,[0,2,3],[],[],0,[4,5],⟨[.own 2149, .own 2150],[(2149, .sl 51),(2150, .sl 151)]⟩,[2149,2150]⟩)],[],[]⟩) (exS:=⟨[.sl 51, .sl 151],[]⟩) Tryz.f93 (memC F9 (memC AR zJ)) (by kernel_rfl) (by kernel_rfl) fun x=>by kernel_rfl
theorem zi4:zn Tryz.prog (aT Py):=
 okC (A:=⟨[KS Jy,lQ Wx,UR Hy],[],[],0,[(3,⟨[3,4],⟨[.str, .int .i64],[]⟩,[0,2],[],[],0,[3],⟨[.str],[]⟩,[]⟩)],[(8,⟨[3,4],⟨[.str, .int .i64],[]⟩,[5,6],[],[],0,[],⟨[],[]⟩,[]⟩)],[]⟩) (exS:=⟨[.str],[]⟩) Tryz.f62 (memC p9 (memC I8 (memC E9 zJ))) (by kernel_rfl) (by kernel_rfl) fun x=>by kernel_rfl
theorem r9:zn Tryz.prog (MS Ky):=
 okC (A:=⟨[AJ Fq,aT Py],[],[],0,[],[],[]⟩) (exS:=⟨[.str, .int .i64],[]⟩) Tryz.f33 (memC BS (memC zi4 zJ)) (by kernel_rfl) (by kernel_rfl) fun x=>by kernel_rfl
theorem E8:zn Tryz.prog (gQ Ux):=
 okC (A:=⟨[kI gp,jI Q6],[],[],0,[],[],[]⟩) (exS:=⟨[.str, .int .i64],[]⟩) Tryz.f35 (memC aR (memC YR zJ)) (by kernel_rfl) (by kernel_rfl) fun x=>by kernel_rfl
theorem Y8:zn Tryz.prog (KR Cy):=
 okC (A:=⟨[yI Qc,DD ZB],[],[],0,[],[],[]⟩) (exS:=⟨[.str, .int .i64],[]⟩) Tryz.f36 (memC yR (memC nI zJ)) (by kernel_rfl) (by kernel_rfl) fun x=>by kernel_rfl
theorem zkY:zn Tryz.prog (lS Vy):=
 okC (A:=⟨[],[],[],1,[(4,⟨[5],⟨[.int .i64],[]⟩,[0,1],[],[],0,[],⟨[],[]⟩,[]⟩)],[],[]⟩) (exS:=⟨[.bool],[]⟩) Tryz.f25 zJ (by kernel_rfl) (by kernel_rfl) fun x=>by kernel_rfl
theorem zgy:zn Tryz.prog (vT bD):=
 okC (A:=⟨[NS Ny,WR Yx,MS Ky,sP ow,gQ Ux,nQ Lx,KR Cy,aI Yp,AJ Fq,lS Vy],[],[],0,[],[],[]⟩) (exS:=⟨[.bool],[]⟩) Tryz.f8 (memC zl7 (memC G9 (memC r9 (memC O6 (memC E8 (memC u7 (memC Y8 (memC jR (memC BS (memC zkY zJ)))))))))) (by kernel_rfl) (by kernel_rfl) fun x=>by kernel_rfl
end Go.Lv.VT
end
