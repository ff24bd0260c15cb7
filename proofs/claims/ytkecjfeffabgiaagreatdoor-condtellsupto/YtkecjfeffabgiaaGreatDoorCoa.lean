/- Contracts. -/
import Derived.Test.YtkecjfeffabgiaaGreatDoorTx
import Derived.Test.YtkecjfeffabgiaaGreatDoorIp
import Derived.Test.YtkecjfeffabgiaaGreatDoorLf
import Derived.Test.YtkecjfeffabgiaaGreatDoorPa
noncomputable section
set_option linter.unusedSimpArgs false
set_option linter.unusedVariables false
namespace Go.Lv.VT
set_option maxRecDepth 100000
open Go.Proofs
theorem okC{con:Con I}{A:Env0 I}{exS:StSh}(f:Go.Func)(hS: ∀c∈A.S,zm Tryz.prog c)(hf:Tryz.prog.funcs[con.f]? =some f)(h:chk con A f=true)(he: ∀x,evF2 A T FK f.ntmps (rsl f) (body f) con exS x=con.F x):zm Tryz.prog con:=
 okC0 mixed ipOK tok rfl rfl hS hf h he
def Cw(F:zg×Int->Option Int):Con I:=⟨31,⟨[.val 27, .int .i64],[]⟩,[],⟨[.int .i64],[]⟩,0,F⟩
def fA(F:List zh×Int->Option Int):Con I:=⟨104,⟨[.sl 59, .int .i64],[]⟩,[],⟨[.int .i64],[]⟩,0,F⟩
def oG(F:Int->Option Int):Con I:=⟨153,⟨[.int .u8],[]⟩,[],⟨[.int .u8],[]⟩,0,F⟩
def Gs(F:List zh->Option Int):Con I:=⟨105,⟨[.sl 59],[]⟩,[],⟨[.int .i64],[]⟩,0,F⟩
def YW(F:List z8->Option Bool):Con I:=⟨61,⟨[.sl 24],[]⟩,[],⟨[.bool],[]⟩,0,F⟩
def YA(F:zg->Option Bool):Con I:=⟨32,⟨[.val 27],[]⟩,[],⟨[.bool],[]⟩,0,F⟩
def UW(F:zg->Option Bool):Con I:=⟨9,⟨[.val 27],[]⟩,[],⟨[.bool],[]⟩,0,F⟩
def NG(F:Int->Option Int):Con I:=⟨58,⟨[.int .u8],[]⟩,[],⟨[.int .u8],[]⟩,0,F⟩
def jv(F:List zh×Int->Option Ze):Con I:=⟨85,⟨[.sl 59, .int .u8],[]⟩,[],⟨[.val 111],[]⟩,0,F⟩
def WA(F:List zh->Option Int):Con I:=⟨50,⟨[.sl 59],[]⟩,[],⟨[.int .i64],[]⟩,0,F⟩
def TV(F:List zh->Option (Int×Int)):Con I:=⟨82,⟨[.sl 59],[]⟩,[],⟨[.int .i64, .int .i64],[]⟩,0,F⟩
def uA(F:List zh×List ze->Option (List ze)):Con I:=⟨164,⟨[.own 0, .sl 59],[(0, .sl 57)]⟩,[],⟨[.own 1],[(1, .sl 57)]⟩,1,F⟩
def kW(F:List zh->Option (List ze)):Con I:=⟨164,⟨[.nilv, .sl 59],[]⟩,[],⟨[.own 0],[(0, .sl 57)]⟩,1,F⟩
def aU(F:List zh->Option (List ze×Int)):Con I:=⟨122,⟨[.sl 59],[]⟩,[],⟨[.sl 57, .int .i64],[]⟩,0,F⟩
def qc(F:Str×Int->Option Int):Con I:=⟨109,⟨[.str, .int .u8],[]⟩,[],⟨[.int .i64],[]⟩,0,F⟩
def PN(F:Str×Str->Option Bool):Con I:=⟨173,⟨[.str, .str],[]⟩,[],⟨[.bool],[]⟩,0,F⟩
def ZM(F:Str×Str->Option Bool):Con I:=⟨130,⟨[.str, .str],[]⟩,[],⟨[.bool],[]⟩,0,F⟩
def OG(F:Str->Option Str):Con I:=⟨91,⟨[.str],[]⟩,[],⟨[.str],[]⟩,0,F⟩
def WV(F:Str->Option Bool):Con I:=⟨123,⟨[.str],[]⟩,[],⟨[.bool],[]⟩,0,F⟩
def xY(F:Str×Str->Option Str):Con I:=⟨266,⟨[.str, .str],[]⟩,[],⟨[.str],[]⟩,0,F⟩
def aY(F:Str×Str->Option Str):Con I:=⟨236,⟨[.str, .str],[]⟩,[],⟨[.str],[]⟩,0,F⟩
def Dw(F:Int->Option Bool):Con I:=⟨158,⟨[.int .u8],[]⟩,[],⟨[.bool],[]⟩,0,F⟩
def iM(F:Str->Option Bool):Con I:=⟨199,⟨[.str],[]⟩,[],⟨[.bool],[]⟩,0,F⟩
def lM(F:Int->Option Bool):Con I:=⟨190,⟨[.int .u8],[]⟩,[],⟨[.bool],[]⟩,0,F⟩
def CG(F:Int->Option Bool):Con I:=⟨157,⟨[.int .u8],[]⟩,[],⟨[.bool],[]⟩,0,F⟩
def VY(F:Str×Str->Option Bool):Con I:=⟨200,⟨[.str, .str],[]⟩,[],⟨[.bool],[]⟩,0,F⟩
def dU(F:ze->Option Bool):Con I:=⟨169,⟨[.val 57],[]⟩,[],⟨[.bool],[]⟩,0,F⟩
def GX(F:(Int×Int)×List ze->Option Bool):Con I:=⟨201,⟨[.int .i64, .int .u8, .optr 0],[(0, .row 62)]⟩,[0],⟨[.bool],[]⟩,0,F⟩
def kM(F:Str×Str->Option Bool):Con I:=⟨131,⟨[.str, .str],[]⟩,[],⟨[.bool],[]⟩,0,F⟩
def JM(F:List ze->Option Int):Con I:=⟨170,⟨[.sl 57],[]⟩,[],⟨[.int .i64],[]⟩,0,F⟩
def LM(F:List ze->Option Int):Con I:=⟨124,⟨[.sl 57],[]⟩,[],⟨[.int .i64],[]⟩,0,F⟩
def Kz(F:zh×Int->Option Bool):Con I:=⟨128,⟨[.val 59, .int .u8],[]⟩,[],⟨[.bool],[]⟩,0,F⟩
def KY(F:zh->Option Bool):Con I:=⟨171,⟨[.val 59],[]⟩,[],⟨[.bool],[]⟩,0,F⟩
def yY(F:List zh->Option Int):Con I:=⟨172,⟨[.sl 59, .clo 171 []],[]⟩,[],⟨[.int .i64],[]⟩,0,F⟩
def HZ(F:List zh->Option Bool):Con I:=⟨126,⟨[.sl 59, .clo 171 []],[]⟩,[],⟨[.bool],[]⟩,0,F⟩
def Qs(F:List zh->Option Bool):Con I:=⟨125,⟨[.sl 59],[]⟩,[],⟨[.bool],[]⟩,0,F⟩
def eU(F:zh->Option Bool):Con I:=⟨129,⟨[.val 59],[]⟩,[],⟨[.bool],[]⟩,0,F⟩
def IX(F:zh->Option Bool):Con I:=⟨127,⟨[.val 59],[]⟩,[],⟨[.bool],[]⟩,0,F⟩
def JZ(F:List zh->Option Int):Con I:=⟨172,⟨[.sl 59, .clo 127 []],[]⟩,[],⟨[.int .i64],[]⟩,0,F⟩
def LZ(F:List zh->Option Bool):Con I:=⟨126,⟨[.sl 59, .clo 127 []],[]⟩,[],⟨[.bool],[]⟩,0,F⟩
def MM(F:z8->Option Int):Con I:=⟨83,⟨[.val 24],[]⟩,[],⟨[.int .i64],[]⟩,0,F⟩
def VA(F:zg->Option Bool):Con I:=⟨47,⟨[.val 27],[]⟩,[],⟨[.bool],[]⟩,0,F⟩
def nL(F:zg->Option Bool):Con I:=⟨71,⟨[.val 27],[]⟩,[],⟨[.bool],[]⟩,0,F⟩
def UA(F:zg×Int->Option ((Int×Bool)×Int)):Con I:=⟨48,⟨[.val 27, .optr 0],[(0, .row 3)]⟩,[],⟨[.int .i64, .bool],[(0, .row 3)]⟩,0,F⟩
def NH(F:zg->Option Int):Con I:=⟨18,⟨[.val 27],[]⟩,[],⟨[.int .i64],[]⟩,0,F⟩
def lW(F:Int×List zh->Option Bool):Con I:=⟨106,⟨[.int .i64, .optr 0],[(0, .row 22)]⟩,[0],⟨[.bool],[]⟩,0,F⟩
def dY(F:List zh->Option (List zh)):Con I:=⟨133,⟨[.sl 59],[]⟩,[],⟨[.own 0],[(0, .sl 59)]⟩,1,F⟩
def TA(F:List zh->Option (List zh)):Con I:=⟨88,⟨[.sl 59],[]⟩,[],⟨[.sl 59],[]⟩,0,F⟩
def XU(F:List zh->Option (List zh×Int)):Con I:=⟨62,⟨[.sl 59],[]⟩,[],⟨[.sl 59, .int .i64],[]⟩,0,F⟩
def Ew(F:zg->Option (List z8)):Con I:=⟨33,⟨[.val 27],[]⟩,[],⟨[.sl 24],[]⟩,0,F⟩
def bV(F:zg->Option (List z8×Int)):Con I:=⟨10,⟨[.val 27],[]⟩,[],⟨[.sl 24, .int .i64],[]⟩,0,F⟩
def bA(F:zg->Option Int):Con I:=⟨63,⟨[.val 27],[]⟩,[],⟨[.int .i64],[]⟩,0,F⟩
def Pw(F:Int->Option Int):Con I:=⟨149,⟨[.int .u8],[]⟩,[],⟨[.int .u8],[]⟩,0,F⟩
def XG(F:Str->Option Str):Con I:=⟨97,⟨[.str],[]⟩,[],⟨[.str],[]⟩,0,F⟩
def XW(F:Str->Option Bool):Con I:=⟨59,⟨[.str],[]⟩,[],⟨[.bool],[]⟩,0,F⟩
def Q9(F:List zh->Option (List ze)):Con I:=⟨100,⟨[.sl 59],[]⟩,[],⟨[.sl 57],[]⟩,0,F⟩
def LB(F:List zh×Int->Option Bool):Con I:=⟨150,⟨[.sl 59, .int .u8],[]⟩,[],⟨[.bool],[]⟩,0,F⟩
def bW(F:List zh->Option Int):Con I:=⟨98,⟨[.sl 59],[]⟩,[],⟨[.int .i64],[]⟩,0,F⟩
def dW(F:Str->Option Bool):Con I:=⟨186,⟨[.str],[]⟩,[],⟨[.bool],[]⟩,0,F⟩
def qp(F:Int->Option Bool):Con I:=⟨117,⟨[.int .u8],[]⟩,[],⟨[.bool],[]⟩,0,F⟩
def mV(F:Str->Option Bool):Con I:=⟨187,⟨[.str],[]⟩,[],⟨[.bool],[]⟩,0,F⟩
def rA(F:Int->Option Bool):Con I:=⟨226,⟨[.int .u8],[]⟩,[],⟨[.bool],[]⟩,0,F⟩
def QP(F:Str×Int->Option Int):Con I:=⟨261,⟨[.str, .int .i64],[]⟩,[],⟨[.int .u8],[]⟩,0,F⟩
def rG(F:Str×Int->Option Int):Con I:=⟨227,⟨[.str, .int .i64],[]⟩,[],⟨[.int .i64],[]⟩,0,F⟩
def IM(F:Unit->Option Str):Con I:=⟨286,⟨[],[]⟩,[],⟨[.str],[]⟩,0,F⟩
def pU(F:Int->Option Int):Con I:=⟨287,⟨[.int .u8],[]⟩,[],⟨[.int .i64],[]⟩,0,F⟩
def pV(F:Int->Option Str):Con I:=⟨288,⟨[.int .i64],[]⟩,[],⟨[.str],[]⟩,0,F⟩
def EB(F:Str×Int->Option (Str×Int)):Con I:=⟨262,⟨[.str, .int .i64],[]⟩,[],⟨[.str, .int .i64],[]⟩,0,F⟩
def DX(F:Str×Int->Option (ze×Int)):Con I:=⟨228,⟨[.str, .int .i64],[]⟩,[],⟨[.val 57, .int .i64],[]⟩,0,F⟩
def fM(F:Int->Option Bool):Con I:=⟨165,⟨[.int .u8],[]⟩,[],⟨[.bool],[]⟩,0,F⟩
def OB(F:Int->Option Bool):Con I:=⟨116,⟨[.int .u8],[]⟩,[],⟨[.bool],[]⟩,0,F⟩
def Uw(F:Str×Int->Option Bool):Con I:=⟨229,⟨[.str, .int .i64],[]⟩,[],⟨[.bool],[]⟩,0,F⟩
def WG(F:Str×Int->Option (Str×Int)):Con I:=⟨230,⟨[.str, .int .i64],[]⟩,[],⟨[.str, .int .i64],[]⟩,0,F⟩
def gM(F:Str×Int->Option Bool):Con I:=⟨231,⟨[.str, .int .i64],[]⟩,[],⟨[.bool],[]⟩,0,F⟩
def JY(F:Str×Int->Option Bool):Con I:=⟨232,⟨[.str, .int .i64],[]⟩,[],⟨[.bool],[]⟩,0,F⟩
def EX(F:Str×Int->Option Int):Con I:=⟨289,⟨[.str, .int .i64],[]⟩,[],⟨[.int .i64],[]⟩,0,F⟩
def PY(F:Str×Int->Option (Int×Bool)):Con I:=⟨263,⟨[.str, .int .i64],[]⟩,[],⟨[.int .i64, .bool],[]⟩,0,F⟩
def lY(F:Str->Option Int):Con I:=⟨264,⟨[.str],[]⟩,[],⟨[.int .i64],[]⟩,0,F⟩
def EY(F:Str×Int->Option (ze×Int)):Con I:=⟨233,⟨[.str, .int .i64],[]⟩,[],⟨[.val 57, .int .i64],[]⟩,0,F⟩
def jL(F:Str×Int×Str->Option Bool):Con I:=⟨225,⟨[.str, .int .i64, .str],[]⟩,[],⟨[.bool],[]⟩,0,F⟩
def MG(F:Str×Str->Option Bool):Con I:=⟨152,⟨[.str, .str],[]⟩,[],⟨[.bool],[]⟩,0,F⟩
def oU(F:Str×Int->Option (ze×Int)):Con I:=⟨290,⟨[.str, .int .i64],[]⟩,[],⟨[.val 57, .int .i64],[]⟩,0,F⟩
def kY(F:Int->Option Bool):Con I:=⟨291,⟨[.int .u8],[]⟩,[],⟨[.bool],[]⟩,0,F⟩
def nU(F:Str×Int->Option (ze×Int)):Con I:=⟨265,⟨[.str, .int .i64],[]⟩,[],⟨[.val 57, .int .i64],[]⟩,0,F⟩
def nV(F:Str×Int->Option (ze×Int)):Con I:=⟨234,⟨[.str, .int .i64],[]⟩,[],⟨[.val 57, .int .i64],[]⟩,0,F⟩
def oV(F:Int->Option Int):Con I:=⟨235,⟨[.int .u8],[]⟩,[],⟨[.int .u8],[]⟩,0,F⟩
def kL(F:Str×Int->Option (ze×Int)):Con I:=⟨198,⟨[.str, .int .i64],[]⟩,[],⟨[.val 57, .int .i64],[]⟩,0,F⟩
def iW(F:Int->Option Bool):Con I:=⟨188,⟨[.int .u8],[]⟩,[],⟨[.bool],[]⟩,0,F⟩
def lV(F:ze->Option Bool):Con I:=⟨151,⟨[.val 57],[]⟩,[],⟨[.bool],[]⟩,0,F⟩
def jW(F:List ze->Option Int):Con I:=⟨99,⟨[.sl 57],[]⟩,[],⟨[.int .i64],[]⟩,0,F⟩
def CB(F:List zh->Option Bool):Con I:=⟨101,⟨[.sl 59],[]⟩,[],⟨[.bool],[]⟩,0,F⟩
def OY(F:List zh->Option (List zh)):Con I:=⟨102,⟨[.sl 59],[]⟩,[],⟨[.sl 59],[]⟩,0,F⟩
def BX(F:Str->Option Bool):Con I:=⟨103,⟨[.str],[]⟩,[],⟨[.bool],[]⟩,0,F⟩
def rX(F:Str×List zh->Option Bool):Con I:=⟨60,⟨[.str, .sl 59],[]⟩,[],⟨[.bool],[]⟩,0,F⟩
def aW(F:z8->Option Int):Con I:=⟨30,⟨[.val 24],[]⟩,[],⟨[.int .i64],[]⟩,0,F⟩
def jM(F:z8->Option Bool):Con I:=⟨107,⟨[.val 24],[]⟩,[],⟨[.bool],[]⟩,0,F⟩
def IB(F:zg->Option Bool):Con I:=⟨65,⟨[.val 27],[]⟩,[],⟨[.bool],[]⟩,0,F⟩
def WB(F:zg->Option Bool):Con I:=⟨64,⟨[.val 27],[]⟩,[],⟨[.bool],[]⟩,0,F⟩
def QT(F:zg->Option Bool):Con I:=⟨34,⟨[.val 27],[]⟩,[],⟨[.bool],[]⟩,0,F⟩
def Qh(F:zg->Option (List z8)):Con I:=⟨35,⟨[.val 27],[]⟩,[],⟨[.sl 24],[]⟩,0,F⟩
def VW(F:zg->Option (List z8×Int)):Con I:=⟨11,⟨[.val 27],[]⟩,[],⟨[.sl 24, .int .i64],[]⟩,0,F⟩
def tY(F:List Str×Str->Option Int):Con I:=⟨175,⟨[.sl 9, .str],[]⟩,[],⟨[.int .i64],[]⟩,0,F⟩
def AZ(F:List Str×Str->Option Bool):Con I:=⟨134,⟨[.sl 9, .str],[]⟩,[],⟨[.bool],[]⟩,0,F⟩
def sW(F:Str->Option Bool):Con I:=⟨92,⟨[.str],[]⟩,[],⟨[.bool],[]⟩,0,F⟩
def mM(F:List Int->Option Int):Con I:=⟨113,⟨[.sl 2],[]⟩,[],⟨[.int .i64],[]⟩,0,F⟩
def rW(F:Int->Option Int):Con I:=⟨121,⟨[.int .i64],[]⟩,[],⟨[.int .i64],[]⟩,0,F⟩
def XV(F:zg->Option Bool):Con I:=⟨80,⟨[.val 27],[]⟩,[],⟨[.bool],[]⟩,0,F⟩
def YV(F:zg->Option Bool):Con I:=⟨81,⟨[.val 27],[]⟩,[],⟨[.bool],[]⟩,0,F⟩
def iU(F:zg->Option Bool):Con I:=⟨46,⟨[.val 27],[]⟩,[],⟨[.bool],[]⟩,0,F⟩
def mY(F:zg->Option Bool):Con I:=⟨45,⟨[.val 27],[]⟩,[],⟨[.bool],[]⟩,0,F⟩
def EZ(F:List zg->Option Int):Con I:=⟨79,⟨[.sl 27, .clo 45 []],[]⟩,[],⟨[.int .i64],[]⟩,0,F⟩
def KZ(F:List zg->Option Bool):Con I:=⟨44,⟨[.sl 27, .clo 45 []],[]⟩,[],⟨[.bool],[]⟩,0,F⟩
def LH(F:zg->Option Int):Con I:=⟨16,⟨[.val 27],[]⟩,[],⟨[.int .i64],[]⟩,0,F⟩
def NM(F:zg->Option Int):Con I:=⟨36,⟨[.val 27],[]⟩,[],⟨[.int .i64],[]⟩,0,F⟩
def JX(F:Int×List Bool->Option (Bool×Int)):Con I:=⟨38,⟨[.optr 0, .optr 1],[(0, .row 3),(1, .row 30)]⟩,[1],⟨[.bool],[(0, .row 3)]⟩,0,F⟩
def XA(F:(zg×Int)×Int×List Bool->Option (Bool×Int)):Con I:=⟨37,⟨[.val 27, .int .i64, .clo 38 [0,1]],[(0, .row 3),(1, .row 30)]⟩,[1],⟨[.bool],[(0, .row 3)]⟩,0,F⟩
def aV(F:zg×VEnv×List Bool->Option (Bool×Int)):Con I:=⟨12,⟨[.val 27, .val 29, .sl 4],[]⟩,[],⟨[.bool, .int .i64],[]⟩,0,F⟩
def mX(F:Str->Option Bool):Con I:=⟨154,⟨[.str],[]⟩,[],⟨[.bool],[]⟩,0,F⟩
def yT(F:Int->Option Bool):Con I:=⟨155,⟨[.int .i64],[]⟩,[],⟨[.bool],[]⟩,0,F⟩
def iL(F:zg->Option (Bool×Bool)):Con I:=⟨108,⟨[.val 27],[]⟩,[],⟨[.bool, .bool],[]⟩,0,F⟩
def GM(F:zg->Option Bool):Con I:=⟨66,⟨[.val 27],[]⟩,[],⟨[.bool],[]⟩,0,F⟩
def nG(F:zg->Option Bool):Con I:=⟨39,⟨[.val 27],[]⟩,[],⟨[.bool],[]⟩,0,F⟩
def aA(F:zg×VEnv×List Bool->Option Bool):Con I:=⟨40,⟨[.val 27, .val 29, .sl 4],[]⟩,[],⟨[.bool],[]⟩,0,F⟩
def PW(F:zg×VEnv×List Bool->Option (Bool×Int)):Con I:=⟨13,⟨[.val 27, .val 29, .sl 4],[]⟩,[],⟨[.bool, .int .i64],[]⟩,0,F⟩
def KM(F:Str->Option Int):Con I:=⟨111,⟨[.str],[]⟩,[],⟨[.int .i64],[]⟩,0,F⟩
def BH(F:Int×List UInt8->Option (List UInt8)):Con I:=⟨159,⟨[.own 0, .int .u8],[(0, .sl 5)]⟩,[],⟨[.own 1],[(1, .sl 5)]⟩,1,F⟩
def oW(F:Str×Int->Option (List UInt8)):Con I:=⟨110,⟨[.nilv, .str, .int .i64],[]⟩,[],⟨[.own 0],[(0, .sl 5)]⟩,1,F⟩
def lL(F:Str->Option (Str×Int)):Con I:=⟨67,⟨[.str],[]⟩,[],⟨[.str, .int .i64],[]⟩,0,F⟩
def GY(F:Int×Int×List UInt8->Option (Int×List UInt8)):Con I:=⟨114,⟨[.int .u8, .optr 0, .optr 1],[(0, .row 3),(1, .sl 5)]⟩,[],⟨[],[(0, .row 3),(1, .sl 5)]⟩,0,F⟩
def pW(F:Int->Option (Str×Int)):Con I:=⟨69,⟨[.int .i64],[]⟩,[],⟨[.str, .int .i64],[]⟩,0,F⟩
def gU(F:List zg×Str->Option Str):Con I:=⟨68,⟨[.sl 27, .str, .clo 41 []],[]⟩,[],⟨[.str],[]⟩,0,F⟩
def Js(F:zg->Option Str):Con I:=⟨41,⟨[.val 27],[]⟩,[],⟨[.str],[]⟩,0,F⟩
def nW(F:(Str×Int)×List UInt8->Option (List UInt8)):Con I:=⟨110,⟨[.own 0, .str, .int .i64],[(0, .sl 5)]⟩,[],⟨[.own 1],[(1, .sl 5)]⟩,1,F⟩
def UV(F:Unit->Option zaU):Con I:=⟨221,⟨[],[]⟩,[],⟨[.val 230],[]⟩,0,F⟩
def FY(F:(Int×Bool)×List UInt8->Option (List UInt8)):Con I:=⟨220,⟨[.own 0, .int .i64, .bool],[(0, .sl 5)]⟩,[],⟨[.own 1],[(1, .sl 5)]⟩,1,F⟩
def mW(F:ze×List UInt8->Option (List UInt8)):Con I:=⟨194,⟨[.own 0, .val 57],[(0, .sl 5)]⟩,[],⟨[.own 1],[(1, .sl 5)]⟩,1,F⟩
def wY(F:zb->Option zb):Con I:=⟨95,⟨[.optr 0],[(0, .row 121)]⟩,[],⟨[],[(0, .row 121)]⟩,0,F⟩
def zH(F:Int×zb->Option Int):Con I:=⟨138,⟨[.optr 0, .int .i64],[(0, .row 121)]⟩,[0],⟨[.int .i64],[]⟩,0,F⟩
def Nw(F:Int->Option Bool):Con I:=⟨139,⟨[.int .i64],[]⟩,[],⟨[.bool],[]⟩,0,F⟩
def QU(F:zb->Option zb):Con I:=⟨140,⟨[.optr 0, .clo 139 []],[(0, .row 121)]⟩,[],⟨[],[(0, .row 121)]⟩,0,F⟩
def GZ(F:Int->Option (List UInt8)):Con I:=⟨244,⟨[.nilv, .int .i32],[]⟩,[],⟨[.own 0],[(0, .sl 5)]⟩,1,F⟩
def TY(F:Int->Option (List UInt8)):Con I:=⟨210,⟨[.nilv, .int .i32],[]⟩,[],⟨[.own 0],[(0, .sl 5)]⟩,1,F⟩
def FB(F:Int×Int×Int->Option Bool):Con I:=⟨212,⟨[.int .i64, .int .i64, .int .i64],[]⟩,[],⟨[.bool],[]⟩,0,F⟩
def Ow(F:Int->Option Bool):Con I:=⟨182,⟨[.int .i64],[]⟩,[],⟨[.bool],[]⟩,0,F⟩
def gL(F:Int->Option Int):Con I:=⟨211,⟨[.int .i64],[]⟩,[],⟨[.int .i64],[]⟩,0,F⟩
def IZ(F:zb->Option (zb×List UInt8)):Con I:=⟨180,⟨[.optr 0, .nilv],[(0, .row 121)]⟩,[],⟨[.own 1],[(0, .row 121),(1, .sl 5)]⟩,1,F⟩
def FZ(F:Int×List UInt8->Option (List UInt8)):Con I:=⟨244,⟨[.own 0, .int .i32],[(0, .sl 5)]⟩,[],⟨[.own 1],[(1, .sl 5)]⟩,1,F⟩
def SY(F:Int×List UInt8->Option (List UInt8)):Con I:=⟨210,⟨[.own 0, .int .i32],[(0, .sl 5)]⟩,[],⟨[.own 1],[(1, .sl 5)]⟩,1,F⟩
def qR(F:zb×List UInt8->Option (zb×List UInt8)):Con I:=⟨180,⟨[.optr 0, .own 1],[(0, .row 121),(1, .sl 5)]⟩,[],⟨[.own 2],[(0, .row 121),(2, .sl 5)]⟩,1,F⟩
def nY(F:zb->Option (ze×zb)):Con I:=⟨141,⟨[.optr 0],[(0, .row 121)]⟩,[],⟨[.val 57],[(0, .row 121)]⟩,0,F⟩
def FM(F:Int->Option Bool):Con I:=⟨181,⟨[.int .i64],[]⟩,[],⟨[.bool],[]⟩,0,F⟩
def bM(F:Int->Option Bool):Con I:=⟨142,⟨[.int .i64],[]⟩,[],⟨[.bool],[]⟩,0,F⟩
def Z5(F:Int×zb->Option Bool):Con I:=⟨143,⟨[.optr 0, .int .i64],[(0, .row 121)]⟩,[0],⟨[.bool],[]⟩,0,F⟩
def NN(F:Int×zb->Option Bool):Con I:=⟨144,⟨[.optr 0, .int .i64],[(0, .row 121)]⟩,[0],⟨[.bool],[]⟩,0,F⟩
def MH(F:zb->Option (Str×zb)):Con I:=⟨145,⟨[.optr 0],[(0, .row 121)]⟩,[],⟨[.str],[(0, .row 121)]⟩,0,F⟩
def pY(F:zb->Option Bool):Con I:=⟨146,⟨[.optr 0],[(0, .row 121)]⟩,[0],⟨[.bool],[]⟩,0,F⟩
def BZ(F:zb->Option zb):Con I:=⟨140,⟨[.optr 0, .clo 182 []],[(0, .row 121)]⟩,[],⟨[],[(0, .row 121)]⟩,0,F⟩
def DZ(F:zb->Option (Bool×zb)):Con I:=⟨183,⟨[.optr 0],[(0, .row 121)]⟩,[],⟨[.bool],[(0, .row 121)]⟩,0,F⟩
def gY(F:Str->Option Int):Con I:=⟨184,⟨[.str],[]⟩,[],⟨[.int .i64],[]⟩,0,F⟩
def CZ(F:zb->Option (ze×zb)):Con I:=⟨147,⟨[.optr 0],[(0, .row 121)]⟩,[],⟨[.val 57],[(0, .row 121)]⟩,0,F⟩
def jY(F:zb->Option (ze×zb)):Con I:=⟨216,⟨[.optr 0],[(0, .row 121)]⟩,[],⟨[.val 57],[(0, .row 121)]⟩,0,F⟩
def iY(F:zb->Option (ze×zb)):Con I:=⟨185,⟨[.optr 0],[(0, .row 121)]⟩,[],⟨[.val 57],[(0, .row 121)]⟩,0,F⟩
def rY(F:zb->Option (ze×zb)):Con I:=⟨148,⟨[.optr 0],[(0, .row 121)]⟩,[],⟨[.val 57],[(0, .row 121)]⟩,0,F⟩
def YY(F:zb->Option (ze×zb)):Con I:=⟨96,⟨[.optr 0],[(0, .row 121)]⟩,[],⟨[.val 57],[(0, .row 121)]⟩,0,F⟩
def UY(F:(ze×Int×Int)×List ze->Option (List ze)):Con I:=⟨56,⟨[.val 57, .int .i64, .int .i64, .optr 0],[(0, .cells 62 [.own 1]),(1, .sl 57)]⟩,[],⟨[],[(0, .cells 62 [.own 2]),(2, .sl 57)]⟩,1,F⟩
def kX(F:Str->Option (Int×List ze)):Con I:=⟨55,⟨[.str, .clo 56 [0]],[(0, .cells 62 [.nilv])]⟩,[],⟨[.int .i64],[(0, .cells 62 [.own 1]),(1, .sl 57)]⟩,1,F⟩
def lX(F:Str->Option (List ze×Int)):Con I:=⟨27,⟨[.str],[]⟩,[],⟨[.sl 57, .int .i64],[]⟩,0,F⟩
def bY(F:List ze×List ze->Option Bool):Con I:=⟨195,⟨[.sl 57, .sl 57],[]⟩,[],⟨[.bool],[]⟩,0,F⟩
def VV(F:List ze->Option (Str×Int)):Con I:=⟨163,⟨[.sl 57],[]⟩,[],⟨[.str, .int .i64],[]⟩,0,F⟩
def YU(F:List zh->Option (Str×Int)):Con I:=⟨115,⟨[.sl 59],[]⟩,[],⟨[.str, .int .i64],[]⟩,0,F⟩
def fU(F:z8->Option (Str×Int)):Con I:=⟨72,⟨[.val 24],[]⟩,[],⟨[.str, .int .i64],[]⟩,0,F⟩
def DN(F:zg×Bool->Option (Str×Bool)):Con I:=⟨70,⟨[.val 27, .optr 0],[(0, .cells 75 [.optr 1]),(1, .row 4)]⟩,[0],⟨[.str],[(1, .row 4)]⟩,0,F⟩
def uW(F:(List zg×Str)×Bool->Option (Str×Bool)):Con I:=⟨68,⟨[.sl 27, .str, .clo 70 [0]],[(0, .cells 75 [.optr 1]),(1, .row 4)]⟩,[0],⟨[.str],[(1, .row 4)]⟩,0,F⟩
def QB(F:zg×Bool->Option (Str×Bool)):Con I:=⟨42,⟨[.val 27, .optr 0],[(0, .row 4)]⟩,[],⟨[.str],[(0, .row 4)]⟩,0,F⟩
def jU(F:zg->Option (Str×Int)):Con I:=⟨14,⟨[.val 27],[]⟩,[],⟨[.str, .int .i64],[]⟩,0,F⟩
def pG(F:Int->Option Str):Con I:=⟨118,⟨[.int .u8],[]⟩,[],⟨[.str],[]⟩,0,F⟩
def nA(F:Str×Bool->Option Str):Con I:=⟨73,⟨[.str, .bool],[]⟩,[],⟨[.str],[]⟩,0,F⟩
def JB(F:Int->Option Str):Con I:=⟨119,⟨[.int .i64],[]⟩,[],⟨[.str],[]⟩,0,F⟩
def dA(F:Int->Option Str):Con I:=⟨74,⟨[.int .i64],[]⟩,[],⟨[.str],[]⟩,0,F⟩
def CX(F:Str×Bool->Option Str):Con I:=⟨222,⟨[.str, .bool],[]⟩,[],⟨[.str],[]⟩,0,F⟩
def NB(F:Int->Option Str):Con I:=⟨260,⟨[.int .i64],[]⟩,[],⟨[.str],[]⟩,0,F⟩
def MB(F:Int×Bool->Option Str):Con I:=⟨223,⟨[.int .i64, .bool],[]⟩,[],⟨[.str],[]⟩,0,F⟩
def jV(F:Str->Option Str):Con I:=⟨224,⟨[.str],[]⟩,[],⟨[.str],[]⟩,0,F⟩
def kV(F:ze->Option Str):Con I:=⟨196,⟨[.val 57],[]⟩,[],⟨[.str],[]⟩,0,F⟩
def gW(F:List ze->Option (Int×Str)):Con I:=⟨166,⟨[.sl 57],[]⟩,[],⟨[.int .i64, .str],[]⟩,0,F⟩
def SV(F:Str×Int->Option Int):Con I:=⟨197,⟨[.str, .int .i64],[]⟩,[],⟨[.int .i64],[]⟩,0,F⟩
def WU(F:Str->Option (List ze×List ZE)):Con I:=⟨167,⟨[.str],[]⟩,[],⟨[.sl 57, .sl 216],[]⟩,0,F⟩
def RV(F:List ze×List ze->Option Bool):Con I:=⟨168,⟨[.sl 57, .sl 57],[]⟩,[],⟨[.bool],[]⟩,0,F⟩
def DY(F:List ze->Option Str):Con I:=⟨120,⟨[.sl 57],[]⟩,[],⟨[.str],[]⟩,0,F⟩
def NY(F:z8->Option Str):Con I:=⟨75,⟨[.val 24],[]⟩,[],⟨[.str],[]⟩,0,F⟩
def nX(F:zg->Option Bool):Con I:=⟨76,⟨[.val 27],[]⟩,[],⟨[.bool],[]⟩,0,F⟩
def dM(F:zg->Option Str):Con I:=⟨77,⟨[.val 27],[]⟩,[],⟨[.str],[]⟩,0,F⟩
def pX(F:List zg×Str×Bool->Option Str):Con I:=⟨78,⟨[.sl 27, .str, .bool],[]⟩,[],⟨[.str],[]⟩,0,F⟩
def qw(F:zg->Option Str):Con I:=⟨43,⟨[.val 27],[]⟩,[],⟨[.str],[]⟩,0,F⟩
def gV(F:zg->Option (Str×Int)):Con I:=⟨15,⟨[.val 27],[]⟩,[],⟨[.str, .int .i64],[]⟩,0,F⟩
def WY(F:zg->Option Int):Con I:=⟨17,⟨[.val 27],[]⟩,[],⟨[.int .i64],[]⟩,0,F⟩
def uY(F:zg->Option Int):Con I:=⟨19,⟨[.val 27],[]⟩,[],⟨[.int .i64],[]⟩,0,F⟩
def iA(F:List zh×List zh->Option Bool):Con I:=⟨84,⟨[.sl 59, .sl 59],[]⟩,[],⟨[.bool],[]⟩,0,F⟩
def WW(F:z8×z8->Option Bool):Con I:=⟨49,⟨[.val 24, .val 24],[]⟩,[],⟨[.bool],[]⟩,0,F⟩
def iV(F:List z8×List z8->Option Bool):Con I:=⟨20,⟨[.sl 24, .sl 24],[]⟩,[],⟨[.bool],[]⟩,0,F⟩
def RY(F:zg×VEnv×List Bool->Option Bool):Con I:=⟨3,⟨[.val 27, .val 29, .sl 4],[]⟩,[],⟨[.bool],[]⟩,0,F⟩
def FX(F:List zh->Option (List ze)):Con I:=⟨164,⟨[.nilv, .sl 59],[]⟩,[],⟨[.sl 57],[]⟩,0,F⟩
def JR(F:Str->Option (Str×Int)):Con I:=⟨94,⟨[.str],[]⟩,[],⟨[.str, .int .i64],[]⟩,0,F⟩
theorem zCA:zm Tryz.prog (JR Sm):=zBE
def FT(F:Str×Int->Option Int):Con I:=⟨156,⟨[.str, .int .u8],[]⟩,[],⟨[.int .i64],[]⟩,0,F⟩
theorem zz7:zm Tryz.prog (FT Ry):=P9
def IK(F:Str×Str->Option Int):Con I:=⟨137,⟨[.str, .str],[]⟩,[],⟨[.int .i64],[]⟩,0,F⟩
theorem PS:zm Tryz.prog (IK Lm):=zBF
def IR(F:Str×Str->Option Str):Con I:=⟨213,⟨[.str, .str],[]⟩,[],⟨[.str],[]⟩,0,F⟩
theorem zCB:zm Tryz.prog (IR Pk):=zBG
def GR(F:Str×Str->Option Str):Con I:=⟨258,⟨[.str, .str],[]⟩,[],⟨[.str],[]⟩,0,F⟩
theorem zCC:zm Tryz.prog (GR Ao):=zBH
def bU(F:Str×Str->Option Int):Con I:=⟨214,⟨[.str, .str],[]⟩,[],⟨[.int .i64],[]⟩,0,F⟩
theorem zvR:zm Tryz.prog (bU ik):=zvh
def G6(F:Str×Str->Option (Str×Str×Bool)):Con I:=⟨215,⟨[.str, .str],[]⟩,[],⟨[.str, .str, .bool],[]⟩,0,F⟩
theorem zH2:zm Tryz.prog (G6 cutF):=zHy
def KT(F:Int×Int->Option Str):Con I:=⟨259,⟨[.int .i64, .int .i64],[]⟩,[],⟨[.str],[]⟩,0,F⟩
theorem zz6:zm Tryz.prog (KT Vq):=R9
def AU(F:(Int×Int)×List UInt8->Option (List UInt8)):Con I:=⟨191,⟨[.own 0, .int .u64, .int .i64],[(0, .sl 5)]⟩,[],⟨[.own 1],[(1, .sl 5)]⟩,1,F⟩
theorem zxp:zm Tryz.prog (AU mq):=zw4
def BU(F:(Int×Int)×List UInt8->Option (List UInt8)):Con I:=⟨257,⟨[.own 0, .int .i64, .int .i64],[(0, .sl 5)]⟩,[],⟨[.own 1],[(1, .sl 5)]⟩,1,F⟩
theorem zxo:zm Tryz.prog (BU oq):=zw3
def oI(F:List Str×Str->Option Str):Con I:=⟨112,⟨[.sl 9, .str],[]⟩,[],⟨[.str],[]⟩,0,F⟩
theorem VQ:zm Tryz.prog (oI Dl):=zED
theorem zuj(qD:zg×Int->Option Int)(hs:zm Tryz.prog (Cw qD)):zm Tryz.prog (Cw (Iw qD)):=
 okC (A:=⟨[Cw qD],[],[],0,[(3,⟨[5,6],⟨[.int .i64, .int .i64],[]⟩,[1,2,4],[0],[],0,[5],⟨[.int .i64],[]⟩,[]⟩)],[],[]⟩) (exS:=⟨[.int .i64],[]⟩) Tryz.f31 (memC hs zw) (by kernel_rfl) (by kernel_rfl) fun x=>by kernel_rfl
theorem xV:zm Tryz.prog (Cw qD):=
 zm.recE (I:=I) (P:=Tryz.prog) (f:=31) (inS:=⟨[.val 27, .int .i64],[]⟩) (cst:=[]) (outS:=⟨[.int .i64],[]⟩) (k:=0) (Iw) (by kernel_rfl) (fun S h=>zuj S h)
theorem zug(Qz:List zh×Int->Option Int)(hs:zm Tryz.prog (fA Qz)):zm Tryz.prog (fA (Jw Qz)):=
 okC (A:=⟨[fA Qz],[],[],0,[(3,⟨[5,6],⟨[.int .i64, .int .i64],[]⟩,[0,1,4],[],[],0,[5],⟨[.int .i64],[]⟩,[]⟩)],[],[]⟩) (exS:=⟨[.int .i64],[]⟩) Tryz.f104 (memC hs zw) (by kernel_rfl) (by kernel_rfl) fun x=>by kernel_rfl
theorem ztx:zm Tryz.prog (fA Qz):=
 zm.recE (I:=I) (P:=Tryz.prog) (f:=104) (inS:=⟨[.sl 59, .int .i64],[]⟩) (cst:=[]) (outS:=⟨[.int .i64],[]⟩) (k:=0) (Jw) (by kernel_rfl) (fun S h=>zug S h)
theorem rM:zm Tryz.prog (oG Q4):=
 okC (A:=⟨[],[],[],0,[],[(6,⟨[6],⟨[.bool],[]⟩,[3],[],[],0,[],⟨[],[]⟩,[]⟩)],[]⟩) (exS:=⟨[.int .u8],[]⟩) Tryz.f153 zw (by kernel_rfl) (by kernel_rfl) fun x=>by kernel_rfl
theorem zue(Qd:List zh->Option Int)(hs:zm Tryz.prog (Gs Qd)):zm Tryz.prog (Gs (KG Qd)):=
 okC (A:=⟨[oG Q4,Gs Qd],[],[],0,[(3,⟨[3,4],⟨[.int .i64, .int .i64],[]⟩,[0,2],[],[],0,[3],⟨[.int .i64],[]⟩,[]⟩)],[(4,⟨[3,4],⟨[.int .i64, .int .i64],[]⟩,[],[],[],0,[],⟨[],[]⟩,[]⟩)],[]⟩) (exS:=⟨[.int .i64],[]⟩) Tryz.f105 (memC rM (memC hs zw)) (by kernel_rfl) (by kernel_rfl) fun x=>by kernel_rfl
theorem yL:zm Tryz.prog (Gs Qd):=
 zm.recE (I:=I) (P:=Tryz.prog) (f:=105) (inS:=⟨[.sl 59],[]⟩) (cst:=[]) (outS:=⟨[.int .i64],[]⟩) (k:=0) (KG) (by kernel_rfl) (fun S h=>zue S h)
theorem zqT:zm Tryz.prog (YW IA):=
 okC (A:=⟨[fA Qz,Gs Qd],[],[],0,[(5,⟨[3,4],⟨[.int .i64, .int .i64],[]⟩,[0],[],[],0,[],⟨[],[]⟩,[]⟩)],[],[]⟩) (exS:=⟨[.bool],[]⟩) Tryz.f61 (memC ztx (memC yL zw)) (by kernel_rfl) (by kernel_rfl) fun x=>by kernel_rfl
theorem zul(jk:zg->Option Bool)(hs:zm Tryz.prog (YA jk)):zm Tryz.prog (YA (Hw jk)):=
 okC (A:=⟨[YW IA,YA jk],[(1,[2])],[],0,[(4,⟨[3],⟨[.int .i64],[]⟩,[1],[0],[],0,[],⟨[],[]⟩,[]⟩)],[],[]⟩) (exS:=⟨[.bool],[]⟩) Tryz.f32 (memC zqT (memC hs zw)) (by kernel_rfl) (by kernel_rfl) fun x=>by kernel_rfl
theorem ztD:zm Tryz.prog (YA jk):=
 zm.recE (I:=I) (P:=Tryz.prog) (f:=32) (inS:=⟨[.val 27],[]⟩) (cst:=[]) (outS:=⟨[.bool],[]⟩) (k:=0) (Hw) (by kernel_rfl) (fun S h=>zul S h)
theorem zqX:zm Tryz.prog (UW AA):=
 okC (A:=⟨[Cw qD,YA jk],[],[],0,[],[],[]⟩) (exS:=⟨[.bool],[]⟩) Tryz.f9 (memC xV (memC ztD zw)) (by kernel_rfl) (by kernel_rfl) fun x=>by kernel_rfl
theorem XM:zm Tryz.prog (NG Kn):=
 okC (A:=⟨[],[],[],0,[],[(7,⟨[6],⟨[.bool],[]⟩,[0],[],[],0,[],⟨[],[]⟩,[]⟩)],[]⟩) (exS:=⟨[.int .u8],[]⟩) Tryz.f58 zw (by kernel_rfl) (by kernel_rfl) fun x=>by kernel_rfl
theorem zwj(uj:List zh×Int->Option Ze)(hs:zm Tryz.prog (jv uj)):zm Tryz.prog (jv (pF uj)):=
 okC (A:=⟨[NG Kn,jv uj],[],[],0,[(3,⟨[12],⟨[.int .i64],[(1, .row 111)]⟩,[1,4,5,10,11],[0],[1],0,[],⟨[],[(1, .row 111)]⟩,[1]⟩)],[(9,⟨[],⟨[],[(1, .row 111)]⟩,[7,8,12],[2],[1],0,[],⟨[],[]⟩,[]⟩),(12,⟨[12],⟨[.int .i64],[(1, .row 111)]⟩,[],[],[1],0,[],⟨[],[]⟩,[]⟩)],[]⟩) (exS:=⟨[.optr 0],[(0, .row 111)]⟩) Tryz.f85 (memC XM (memC hs zw)) (by kernel_rfl) (by kernel_rfl) fun x=>by kernel_rfl
theorem DV:zm Tryz.prog (jv uj):=
 zm.recE (I:=I) (P:=Tryz.prog) (f:=85) (inS:=⟨[.sl 59, .int .u8],[]⟩) (cst:=[]) (outS:=⟨[.val 111],[]⟩) (k:=0) (pF) (by kernel_rfl) (fun S h=>zwj S h)
theorem SG:zm Tryz.prog (WA Al):=
 okC (A:=⟨[jv uj],[],[],0,[],[],[]⟩) (exS:=⟨[.int .i64],[]⟩) Tryz.f50 (memC DV zw) (by kernel_rfl) (by kernel_rfl) fun x=>by kernel_rfl
theorem ztm:zm Tryz.prog (TV bz):=
 okC (A:=⟨[WA Al,jv uj],[],[],0,[],[],[]⟩) (exS:=⟨[.int .i64, .int .i64],[]⟩) Tryz.f82 (memC SG (memC DV zw)) (by kernel_rfl) (by kernel_rfl) fun x=>by kernel_rfl
theorem zq7(Yl:List zh×List ze->Option (List ze))(hs:zm Tryz.prog (uA Yl)):zm Tryz.prog (uA (TG Yl)):=
 okC (A:=⟨[NG Kn,uA Yl],[(4,[3]),(7,[6])],[],1,[(2,⟨[0,10],⟨[.own 1001, .int .i64],[(1001, .sl 57)]⟩,[4,8,9],[],[],0,[0],⟨[.own 1001],[(1001, .sl 57)]⟩,[1001]⟩)],[(8,⟨[0,10],⟨[.own 1103, .int .i64],[(1103, .sl 57)]⟩,[],[],[],0,[],⟨[],[]⟩,[]⟩)],[]⟩) (exS:=⟨[.own 1],[(1, .sl 57)]⟩) Tryz.f164 (memC XM (memC hs zw)) (by kernel_rfl) (by kernel_rfl) fun x=>by kernel_rfl
theorem zqM:zm Tryz.prog (uA Yl):=
 zm.recE (I:=I) (P:=Tryz.prog) (f:=164) (inS:=⟨[.own 0, .sl 59],[(0, .sl 57)]⟩) (cst:=[]) (outS:=⟨[.own 1],[(1, .sl 57)]⟩) (k:=1) (TG) (by kernel_rfl) (fun S h=>zq7 S h)
theorem XX:zm Tryz.prog (kW Gp):=
 okC (A:=⟨[NG Kn,uA Yl],[(4,[3]),(7,[6])],[],0,[(2,⟨[0,10],⟨[.own 1105, .int .i64],[(1105, .sl 57)]⟩,[4,8,9],[],[],0,[0],⟨[.own 1105],[(1105, .sl 57)]⟩,[1105]⟩)],[(8,⟨[0,10],⟨[.own 1207, .int .i64],[(1207, .sl 57)]⟩,[],[],[],0,[],⟨[],[]⟩,[]⟩)],[]⟩) (exS:=⟨[.own 0],[(0, .sl 57)]⟩) Tryz.f164 (memC XM (memC zqM zw)) (by kernel_rfl) (by kernel_rfl) fun x=>by kernel_rfl
theorem zpu:zm Tryz.prog (FX Gp):=zA5 ipOK (by kernel_rfl) XX
theorem zvT:zm Tryz.prog (aU Fz):=
 okC (A:=⟨[WA Al,kW Gp],[],[],0,[],[],[]⟩) (exS:=⟨[.sl 57, .int .i64],[]⟩) Tryz.f122 (memC SG (memC XX zw)) (by kernel_rfl) (by kernel_rfl) fun x=>by kernel_rfl
theorem qC:zm Tryz.prog (qc strings_IndexByte):=
 okC (A:=⟨[FT Ry],[],[],0,[],[],[]⟩) (exS:=⟨[.int .i64],[]⟩) Tryz.f109 (memC zz7 zw) (by kernel_rfl) (by kernel_rfl) fun x=>by kernel_rfl
theorem vY:zm Tryz.prog (PN stringslite_HasPrefix):=
 okC (A:=⟨[],[],[],0,[],[],[]⟩) (exS:=⟨[.bool],[]⟩) Tryz.f173 zw (by kernel_rfl) (by kernel_rfl) fun x=>by kernel_rfl
theorem ZY:zm Tryz.prog (ZM strings_HasPrefix):=
 okC (A:=⟨[PN stringslite_HasPrefix],[],[],0,[],[],[]⟩) (exS:=⟨[.bool],[]⟩) Tryz.f130 (memC vY zw) (by kernel_rfl) (by kernel_rfl) fun x=>by kernel_rfl
theorem YM:zm Tryz.prog (OG Qj):=
 okC (A:=⟨[],[],[],0,[(3,⟨[10],⟨[.int .i64],[(0, .sl 5)]⟩,[2,3,8,9],[],[0],0,[],⟨[],[(0, .sl 5)]⟩,[0]⟩)],[(7,⟨[10],⟨[.int .i64],[(0, .sl 5)]⟩,[],[],[0],0,[],⟨[],[]⟩,[]⟩)],[]⟩) (exS:=⟨[.str],[]⟩) Tryz.f91 zw (by kernel_rfl) (by kernel_rfl) fun x=>by kernel_rfl
theorem ztj:zm Tryz.prog (WV nz):=
 okC (A:=⟨[qc strings_IndexByte,ZM strings_HasPrefix,OG Qj],[],[],0,[],[],[]⟩) (exS:=⟨[.bool],[]⟩) Tryz.f123 (memC qC (memC ZY (memC YM zw))) (by kernel_rfl) (by kernel_rfl) fun x=>by kernel_rfl
theorem zgr:zm Tryz.prog (xY stringslite_TrimPrefix):=
 okC (A:=⟨[PN stringslite_HasPrefix],[],[],0,[],[],[]⟩) (exS:=⟨[.str],[]⟩) Tryz.f266 (memC vY zw) (by kernel_rfl) (by kernel_rfl) fun x=>by kernel_rfl
theorem ziu:zm Tryz.prog (aY strings_TrimPrefix):=
 okC (A:=⟨[xY stringslite_TrimPrefix],[],[],0,[],[],[]⟩) (exS:=⟨[.str],[]⟩) Tryz.f236 (memC zgr zw) (by kernel_rfl) (by kernel_rfl) fun x=>by kernel_rfl
theorem AB:zm Tryz.prog (Dw qI):=
 okC (A:=⟨[],[],[],0,[],[],[]⟩) (exS:=⟨[.bool],[]⟩) Tryz.f158 zw (by kernel_rfl) (by kernel_rfl) fun x=>by kernel_rfl
theorem xX:zm Tryz.prog (iM Fs):=
 okC (A:=⟨[aY strings_TrimPrefix,Dw qI],[],[],0,[],[],[]⟩) (exS:=⟨[.bool],[]⟩) Tryz.f199 (memC ziu (memC AB zw)) (by kernel_rfl) (by kernel_rfl) fun x=>by kernel_rfl
theorem aX:zm Tryz.prog (lM Xv):=
 okC (A:=⟨[],[],[],0,[],[],[]⟩) (exS:=⟨[.bool],[]⟩) Tryz.f190 zw (by kernel_rfl) (by kernel_rfl) fun x=>by kernel_rfl
theorem BM:zm Tryz.prog (CG jl):=
 okC (A:=⟨[lM Xv,Dw qI],[],[],0,[],[],[]⟩) (exS:=⟨[.bool],[]⟩) Tryz.f157 (memC aX (memC AB zw)) (by kernel_rfl) (by kernel_rfl) fun x=>by kernel_rfl
theorem zkf:zm Tryz.prog (VY strings_Contains):=
 okC (A:=⟨[IK Lm],[],[],0,[],[],[]⟩) (exS:=⟨[.bool],[]⟩) Tryz.f200 (memC PS zw) (by kernel_rfl) (by kernel_rfl) fun x=>by kernel_rfl
theorem zvQ:zm Tryz.prog (dU Kv):=
 okC (A:=⟨[qc strings_IndexByte,iM Fs,ZM strings_HasPrefix,CG jl,VY strings_Contains],[],[],0,[],[(8,⟨[3,4,5,6,7,25],⟨[.bool, .bool, .bool, .bool, .bool, .bool],[]⟩,[1,16],[],[],0,[],⟨[],[]⟩,[]⟩),(14,⟨[3,4,5,6,7,63],⟨[.bool, .bool, .bool, .bool, .bool, .bool],[]⟩,[],[],[],0,[],⟨[],[]⟩,[]⟩),(22,⟨[4,5,6,7,94],⟨[.bool, .bool, .bool, .bool, .bool],[]⟩,[3],[],[],0,[],⟨[],[]⟩,[]⟩),(24,⟨[3,4,5,6,7],⟨[.bool, .bool, .bool, .bool, .bool],[]⟩,[1],[0],[],0,[],⟨[],[]⟩,[]⟩)],[]⟩) (exS:=⟨[.bool],[]⟩) Tryz.f169 (memC qC (memC xX (memC ZY (memC BM (memC zkf zw))))) (by kernel_rfl) (by kernel_rfl) fun x=>by kernel_rfl
theorem zpt:zm Tryz.prog (GX ZN):=
 okC (A:=⟨[],[],[],1,[],[],[]⟩) (exS:=⟨[.bool],[]⟩) Tryz.f201 zw (by kernel_rfl) (by kernel_rfl) fun x=>by kernel_rfl
theorem YX:zm Tryz.prog (kM Nn):=
 okC (A:=⟨[OG Qj],[],[],0,[],[],[]⟩) (exS:=⟨[.bool],[]⟩) Tryz.f131 (memC YM zw) (by kernel_rfl) (by kernel_rfl) fun x=>by kernel_rfl
theorem CW:zm Tryz.prog (JM QS):=
 okC (A:=⟨[GX ZN,kM Nn],[],[],0,[],[(11,⟨[5],⟨[.int .i64],[]⟩,[3],[0],[],0,[],⟨[],[]⟩,[]⟩)],[]⟩) (exS:=⟨[.int .i64],[]⟩) Tryz.f170 (memC zpt (memC YX zw)) (by kernel_rfl) (by kernel_rfl) fun x=>by kernel_rfl
theorem EW:zm Tryz.prog (LM QR):=
 okC (A:=⟨[dU Kv,JM QS],[],[],0,[(4,⟨[10],⟨[.int .i64],[]⟩,[0,8,9],[],[],0,[],⟨[],[]⟩,[]⟩)],[],[]⟩) (exS:=⟨[.int .i64],[]⟩) Tryz.f124 (memC zvQ (memC CW zw)) (by kernel_rfl) (by kernel_rfl) fun x=>by kernel_rfl
theorem YF:zm Tryz.prog (Kz yh):=
 okC (A:=⟨[],[],[],0,[],[],[]⟩) (exS:=⟨[.bool],[]⟩) Tryz.f128 zw (by kernel_rfl) (by kernel_rfl) fun x=>by kernel_rfl
theorem zmq(zI:List zh->Option Bool)(h_decl_closers:zm Tryz.prog (Qs zI)):zm Tryz.prog (KY (Tw zI)):=
 okC (A:=⟨[Kz yh,Qs zI],[],[],0,[],[],[]⟩) (exS:=⟨[.bool],[]⟩) Tryz.f171 (memC YF (memC h_decl_closers zw)) (by kernel_rfl) (by kernel_rfl) fun x=>by kernel_rfl
theorem zgq(zI:List zh->Option Bool)(h_decl_closers:zm Tryz.prog (Qs zI)):zm Tryz.prog (yY (QM zI)):=
 okC (A:=⟨[KY (Tw zI)],[],[],0,[(2,⟨[8],⟨[.int .i64],[]⟩,[0,1,7],[],[],0,[],⟨[],[]⟩,[]⟩)],[],[]⟩) (exS:=⟨[.int .i64],[]⟩) Tryz.f172 (memC (zmq zI h_decl_closers) zw) (by kernel_rfl) (by kernel_rfl) fun x=>by kernel_rfl
theorem zeM(zI:List zh->Option Bool)(h_decl_closers:zm Tryz.prog (Qs zI)):zm Tryz.prog (HZ (qV zI)):=
 okC (A:=⟨[yY (QM zI)],[],[],0,[],[],[]⟩) (exS:=⟨[.bool],[]⟩) Tryz.f126 (memC (zgq zI h_decl_closers) zw) (by kernel_rfl) (by kernel_rfl) fun x=>by kernel_rfl
theorem zpZ(zI:List zh->Option Bool)(hs:zm Tryz.prog (Qs zI)):zm Tryz.prog (Qs (mG zI)):=
 okC (A:=⟨[HZ (qV zI)],[],[],0,[],[],[]⟩) (exS:=⟨[.bool],[]⟩) Tryz.f125 (memC (zeM zI hs) zw) (by kernel_rfl) (by kernel_rfl) fun x=>by kernel_rfl
theorem zps:zm Tryz.prog (Qs zI):=
 zm.recE (I:=I) (P:=Tryz.prog) (f:=125) (inS:=⟨[.sl 59],[]⟩) (cst:=[]) (outS:=⟨[.bool],[]⟩) (k:=0) (mG) (by kernel_rfl) (fun S h=>zpZ S h)
theorem zvP:zm Tryz.prog (eU UF):=
 okC (A:=⟨[Kz yh],[],[],0,[],[],[]⟩) (exS:=⟨[.bool],[]⟩) Tryz.f129 (memC YF zw) (by kernel_rfl) (by kernel_rfl) fun x=>by kernel_rfl
theorem zpr:zm Tryz.prog (IX SA):=
 okC (A:=⟨[Kz yh,eU UF],[],[],0,[],[],[]⟩) (exS:=⟨[.bool],[]⟩) Tryz.f127 (memC YF (memC zvP zw)) (by kernel_rfl) (by kernel_rfl) fun x=>by kernel_rfl
theorem zfx:zm Tryz.prog (JZ Qf):=
 okC (A:=⟨[IX SA],[],[],0,[(2,⟨[8],⟨[.int .i64],[]⟩,[0,1,7],[],[],0,[],⟨[],[]⟩,[]⟩)],[],[]⟩) (exS:=⟨[.int .i64],[]⟩) Tryz.f172 (memC zpr zw) (by kernel_rfl) (by kernel_rfl) fun x=>by kernel_rfl
theorem zec:zm Tryz.prog (LZ ZT):=
 okC (A:=⟨[JZ Qf],[],[],0,[],[],[]⟩) (exS:=⟨[.bool],[]⟩) Tryz.f126 (memC zfx zw) (by kernel_rfl) (by kernel_rfl) fun x=>by kernel_rfl
theorem FW:zm Tryz.prog (MM yo):=
 okC (A:=⟨[aU Fz,WV nz,LM QR,Qs zI,LZ ZT,ZM strings_HasPrefix,Kz yh],[],[],0,[],[],[]⟩) (exS:=⟨[.int .i64],[]⟩) Tryz.f83 (memC zvT (memC ztj (memC EW (memC zps (memC zec (memC ZY (memC YF zw))))))) (by kernel_rfl) (by kernel_rfl) fun x=>by kernel_rfl
theorem LG:zm Tryz.prog (VA QW):=
 okC (A:=⟨[],[],[],0,[],[],[]⟩) (exS:=⟨[.bool],[]⟩) Tryz.f47 zw (by kernel_rfl) (by kernel_rfl) fun x=>by kernel_rfl
theorem GV:zm Tryz.prog (nL Cr):=
 okC (A:=⟨[],[],[],0,[],[],[]⟩) (exS:=⟨[.bool],[]⟩) Tryz.f71 zw (by kernel_rfl) (by kernel_rfl) fun x=>by kernel_rfl
theorem zwi(Oj:zg×Int->Option ((Int×Bool)×Int))(hs:zm Tryz.prog (UA Oj)):zm Tryz.prog (UA (av Oj)):=
 okC (A:=⟨[TV bz,MM yo,VA QW,UA Oj,nL Cr],[],[],1,[(19,⟨[9,97],⟨[.int .i64, .int .i64],[(0, .row 3)]⟩,[1,95,96],[],[0],1,[9],⟨[.int .i64],[(0, .row 3)]⟩,[0]⟩)],[(15,⟨[69],⟨[.bool],[]⟩,[1,2,6],[0,1],[],0,[],⟨[],[]⟩,[]⟩),(26,⟨[9,12],⟨[.int .i64, .int .i64],[]⟩,[97],[0],[],0,[],⟨[],[]⟩,[]⟩)],[]⟩) (exS:=⟨[.int .i64, .bool],[(0, .row 3)]⟩) Tryz.f48 (memC ztm (memC FW (memC LG (memC hs (memC GV zw))))) (by kernel_rfl) (by kernel_rfl) fun x=>by kernel_rfl
theorem zvN:zm Tryz.prog (UA Oj):=
 zm.recE (I:=I) (P:=Tryz.prog) (f:=48) (inS:=⟨[.val 27, .optr 0],[(0, .row 3)]⟩) (cst:=[]) (outS:=⟨[.int .i64, .bool],[(0, .row 3)]⟩) (k:=0) (av) (by kernel_rfl) (fun S h=>zwi S h)
theorem MN:zm Tryz.prog (NH Zy):=
 okC (A:=⟨[UA Oj],[],[],0,[],[],[]⟩) (exS:=⟨[.int .i64],[]⟩) Tryz.f18 (memC zvN zw) (by kernel_rfl) (by kernel_rfl) fun x=>by kernel_rfl
theorem zqL:zm Tryz.prog (lW Vv):=
 okC (A:=⟨[],[],[],1,[],[],[]⟩) (exS:=⟨[.bool],[]⟩) Tryz.f106 zw (by kernel_rfl) (by kernel_rfl) fun x=>by kernel_rfl
theorem zis:zm Tryz.prog (dY Q6):=
 okC (A:=⟨[],[],[],0,[],[],[]⟩) (exS:=⟨[.own 0],[(0, .sl 59)]⟩) Tryz.f133 zw (by kernel_rfl) (by kernel_rfl) fun x=>by kernel_rfl
theorem zwk(Ul:List zh->Option (List zh))(hs:zm Tryz.prog (TA Ul)):zm Tryz.prog (TA (oF Ul)):=
 okC (A:=⟨[dY Q6,TA Ul],[],[],0,[(3,⟨[8],⟨[.int .i64],[(0, .sl 59)]⟩,[0,2,7],[],[0],0,[],⟨[],[(0, .sl 59)]⟩,[0]⟩)],[],[]⟩) (exS:=⟨[.sl 59],[]⟩) Tryz.f88 (memC zis (memC hs zw)) (by kernel_rfl) (by kernel_rfl) fun x=>by kernel_rfl
theorem zvW:zm Tryz.prog (TA Ul):=
 zm.recE (I:=I) (P:=Tryz.prog) (f:=88) (inS:=⟨[.sl 59],[]⟩) (cst:=[]) (outS:=⟨[.sl 59],[]⟩) (k:=0) (oF) (by kernel_rfl) (fun S h=>zwk S h)
theorem zvV:zm Tryz.prog (XU ym):=
 okC (A:=⟨[WA Al,lW Vv,TA Ul],[],[],0,[(6,⟨[6],⟨[.int .i64],[]⟩,[1,2,3,5,7],[0],[],0,[6],⟨[.int .i64],[]⟩,[]⟩),(8,⟨[7],⟨[.int .i64],[]⟩,[1,2,3,5,6],[0],[],2,[7],⟨[.int .i64],[]⟩,[]⟩)],[],[]⟩) (exS:=⟨[.sl 59, .int .i64],[]⟩) Tryz.f62 (memC SG (memC zqL (memC zvW zw))) (by kernel_rfl) (by kernel_rfl) fun x=>by kernel_rfl
theorem zt8(QQ:zg->Option (List z8))(hs:zm Tryz.prog (Ew QQ)):zm Tryz.prog (Ew (yF QQ)):=
 okC (A:=⟨[XU ym,Ew QQ],[(4,[1])],[],0,[(7,⟨[4,24],⟨[.own 1208, .int .i64],[(1208, .sl 24)]⟩,[2,22,23],[],[],0,[4],⟨[.own 1208],[(1208, .sl 24)]⟩,[1208]⟩)],[],[]⟩) (exS:=⟨[.sl 24],[]⟩) Tryz.f33 (memC zvV (memC hs zw)) (by kernel_rfl) (by kernel_rfl) fun x=>by kernel_rfl
theorem IW:zm Tryz.prog (Ew QQ):=
 zm.recE (I:=I) (P:=Tryz.prog) (f:=33) (inS:=⟨[.val 27],[]⟩) (cst:=[]) (outS:=⟨[.sl 24],[]⟩) (k:=0) (yF) (by kernel_rfl) (fun S h=>zt8 S h)
theorem ztd:zm Tryz.prog (bV rz):=
 okC (A:=⟨[NH Zy,Ew QQ],[],[],0,[],[],[]⟩) (exS:=⟨[.sl 24, .int .i64],[]⟩) Tryz.f10 (memC MN (memC IW zw)) (by kernel_rfl) (by kernel_rfl) fun x=>by kernel_rfl
theorem zui(ol:zg->Option Int)(hs:zm Tryz.prog (bA ol)):zm Tryz.prog (bA (GG ol)):=
 okC (A:=⟨[Gs Qd,bA ol],[],[],0,[(7,⟨[3,4],⟨[.int .i64, .int .i64],[]⟩,[1,2],[0],[],0,[3],⟨[.int .i64],[]⟩,[]⟩)],[(13,⟨[3,6],⟨[.int .i64, .int .i64],[]⟩,[4],[],[],0,[],⟨[],[]⟩,[]⟩)],[]⟩) (exS:=⟨[.int .i64],[]⟩) Tryz.f63 (memC yL (memC hs zw)) (by kernel_rfl) (by kernel_rfl) fun x=>by kernel_rfl
theorem ztA:zm Tryz.prog (bA ol):=
 zm.recE (I:=I) (P:=Tryz.prog) (f:=63) (inS:=⟨[.val 27],[]⟩) (cst:=[]) (outS:=⟨[.int .i64],[]⟩) (k:=0) (GG) (by kernel_rfl) (fun S h=>zui S h)
theorem TB:zm Tryz.prog (Pw qd):=
 okC (A:=⟨[],[],[],0,[],[],[]⟩) (exS:=⟨[.int .u8],[]⟩) Tryz.f149 zw (by kernel_rfl) (by kernel_rfl) fun x=>by kernel_rfl
theorem VM:zm Tryz.prog (XG qK):=
 okC (A:=⟨[Pw qd],[],[],0,[(3,⟨[4],⟨[.int .i64],[(0, .sl 5)]⟩,[2,3],[],[0],0,[],⟨[],[(0, .sl 5)]⟩,[0]⟩)],[],[]⟩) (exS:=⟨[.str],[]⟩) Tryz.f97 (memC TB zw) (by kernel_rfl) (by kernel_rfl) fun x=>by kernel_rfl
theorem zqU:zm Tryz.prog (XW GA):=
 okC (A:=⟨[XG qK],[],[],0,[(4,⟨[3],⟨[.int .i64],[]⟩,[0],[],[],0,[],⟨[],[]⟩,[]⟩)],[],[]⟩) (exS:=⟨[.bool],[]⟩) Tryz.f59 (memC VM zw) (by kernel_rfl) (by kernel_rfl) fun x=>by kernel_rfl
theorem zp2(Z4:List zh->Option (List ze))(hs:zm Tryz.prog (Q9 Z4)):zm Tryz.prog (Q9 (eG Z4)):=
 okC (A:=⟨[oG Q4,Q9 Z4],[(5,[6]),(9,[3])],[],0,[(3,⟨[3,4],⟨[.own 1209, .int .i64],[(1209, .sl 57)]⟩,[0,2],[],[],0,[3],⟨[.own 1209],[(1209, .sl 57)]⟩,[1209]⟩)],[(4,⟨[3,4],⟨[.own 1311, .int .i64],[(1311, .sl 57)]⟩,[],[],[],0,[],⟨[],[]⟩,[]⟩)],[]⟩) (exS:=⟨[.sl 57],[]⟩) Tryz.f100 (memC rM (memC hs zw)) (by kernel_rfl) (by kernel_rfl) fun x=>by kernel_rfl
theorem pM:zm Tryz.prog (Q9 Z4):=
 zm.recE (I:=I) (P:=Tryz.prog) (f:=100) (inS:=⟨[.sl 59],[]⟩) (cst:=[]) (outS:=⟨[.sl 57],[]⟩) (k:=0) (eG) (by kernel_rfl) (fun S h=>zp2 S h)
theorem zp3(Qv:List zh×Int->Option Bool)(hs:zm Tryz.prog (LB Qv)):zm Tryz.prog (LB (dG Qv)):=
 okC (A:=⟨[oG Q4,LB Qv],[],[],0,[(2,⟨[5],⟨[.int .i64],[]⟩,[0,1],[],[],0,[],⟨[],[]⟩,[]⟩)],[],[]⟩) (exS:=⟨[.bool],[]⟩) Tryz.f150 (memC rM (memC hs zw)) (by kernel_rfl) (by kernel_rfl) fun x=>by kernel_rfl
theorem zpA:zm Tryz.prog (LB Qv):=
 zm.recE (I:=I) (P:=Tryz.prog) (f:=150) (inS:=⟨[.sl 59, .int .u8],[]⟩) (cst:=[]) (outS:=⟨[.bool],[]⟩) (k:=0) (dG) (by kernel_rfl) (fun S h=>zp3 S h)
theorem zqR:zm Tryz.prog (bW JA):=
 okC (A:=⟨[Gs Qd,Q9 Z4,LB Qv],[],[],0,[],[],[]⟩) (exS:=⟨[.int .i64],[]⟩) Tryz.f98 (memC yL (memC pM (memC zpA zw))) (by kernel_rfl) (by kernel_rfl) fun x=>by kernel_rfl
theorem zqQ:zm Tryz.prog (dW Ep):=
 okC (A:=⟨[],[],[],0,[(2,⟨[3],⟨[.int .i64],[]⟩,[0],[],[],0,[],⟨[],[]⟩,[]⟩)],[],[]⟩) (exS:=⟨[.bool],[]⟩) Tryz.f186 zw (by kernel_rfl) (by kernel_rfl) fun x=>by kernel_rfl
theorem qo:zm Tryz.prog (qp zC):=
 okC (A:=⟨[],[],[],0,[],[],[]⟩) (exS:=⟨[.bool],[]⟩) Tryz.f117 zw (by kernel_rfl) (by kernel_rfl) fun x=>by kernel_rfl
theorem zts:zm Tryz.prog (mV Yz):=
 okC (A:=⟨[qp zC],[],[],0,[],[],[]⟩) (exS:=⟨[.bool],[]⟩) Tryz.f187 (memC qo zw) (by kernel_rfl) (by kernel_rfl) fun x=>by kernel_rfl
theorem jG:zm Tryz.prog (rA qA):=
 okC (A:=⟨[],[],[],0,[],[],[]⟩) (exS:=⟨[.bool],[]⟩) Tryz.f226 zw (by kernel_rfl) (by kernel_rfl) fun x=>by kernel_rfl
theorem QG:zm Tryz.prog (QP zB):=
 okC (A:=⟨[],[],[],0,[],[],[]⟩) (exS:=⟨[.int .u8],[]⟩) Tryz.f261 zw (by kernel_rfl) (by kernel_rfl) fun x=>by kernel_rfl
theorem uM:zm Tryz.prog (rG qE):=
 okC (A:=⟨[QP zB,rA qA],[],[],0,[(1,⟨[1],⟨[.int .i64],[]⟩,[0,4],[],[],0,[1],⟨[.int .i64],[]⟩,[]⟩)],[],[]⟩) (exS:=⟨[.int .i64],[]⟩) Tryz.f227 (memC QG (memC jG zw)) (by kernel_rfl) (by kernel_rfl) fun x=>by kernel_rfl
theorem yV:zm Tryz.prog (IM oo):=
 okC (A:=⟨[],[(1,[0])],[],0,[],[],[]⟩) (exS:=⟨[.str],[]⟩) Tryz.f286 zw (by kernel_rfl) (by kernel_rfl) fun x=>by kernel_rfl
theorem zvY:zm Tryz.prog (pU Dn):=
 okC (A:=⟨[qp zC,Pw qd],[],[],0,[],[],[]⟩) (exS:=⟨[.int .i64],[]⟩) Tryz.f287 (memC qo (memC TB zw)) (by kernel_rfl) (by kernel_rfl) fun x=>by kernel_rfl
theorem ztp:zm Tryz.prog (pV Rv):=
 okC (A:=⟨[IM oo],[(4,[2]),(6,[8]),(8,[13]),(9,[18])],[],0,[],[],[]⟩) (exS:=⟨[.str],[]⟩) Tryz.f288 (memC yV zw) (by kernel_rfl) (by kernel_rfl) fun x=>by kernel_rfl
theorem uG:zm Tryz.prog (EB ZC):=
 okC (A:=⟨[IM oo,pU Dn,QP zB,rA qA,pV Rv],[],[],0,[(7,⟨[6,7],⟨[.int .i64, .int .i64],[]⟩,[0,1,4,5],[],[],0,[6,7],⟨[.int .i64, .int .i64],[]⟩,[]⟩)],[(12,⟨[7],⟨[.int .i64],[]⟩,[6],[],[],0,[],⟨[],[]⟩,[]⟩)],[]⟩) (exS:=⟨[.str, .int .i64],[]⟩) Tryz.f262 (memC yV (memC zvY (memC QG (memC jG (memC ztp zw))))) (by kernel_rfl) (by kernel_rfl) fun x=>by kernel_rfl
theorem zpw:zm Tryz.prog (DX mr):=
 okC (A:=⟨[EB ZC],[],[],0,[(4,⟨[1],⟨[.int .i64],[(0, .row 57),(1, .row 57)]⟩,[0,4,6,7],[],[0,1],0,[1],⟨[.int .i64],[(0, .row 57),(1, .row 57)]⟩,[0,1]⟩)],[],[]⟩) (exS:=⟨[.optr 0, .int .i64],[(0, .row 57)]⟩) Tryz.f228 (memC uG zw) (by kernel_rfl) (by kernel_rfl) fun x=>by kernel_rfl
theorem vX:zm Tryz.prog (fM Cs):=
 okC (A:=⟨[Pw qd],[],[],0,[],[],[]⟩) (exS:=⟨[.bool],[]⟩) Tryz.f165 (memC TB zw) (by kernel_rfl) (by kernel_rfl) fun x=>by kernel_rfl
theorem JH:zm Tryz.prog (OB ZP):=
 okC (A:=⟨[fM Cs,qp zC],[],[],0,[],[],[]⟩) (exS:=⟨[.bool],[]⟩) Tryz.f116 (memC vX (memC qo zw)) (by kernel_rfl) (by kernel_rfl) fun x=>by kernel_rfl
theorem BB:zm Tryz.prog (Uw Zm):=
 okC (A:=⟨[QP zB],[],[],0,[],[],[]⟩) (exS:=⟨[.bool],[]⟩) Tryz.f229 (memC QG zw) (by kernel_rfl) (by kernel_rfl) fun x=>by kernel_rfl
theorem UM:zm Tryz.prog (WG Qk):=
 okC (A:=⟨[OB ZP,Uw Zm,EB ZC],[],[],0,[(2,⟨[1,6],⟨[.int .i64, .str],[]⟩,[0],[],[],0,[],⟨[],[]⟩,[]⟩)],[],[]⟩) (exS:=⟨[.str, .int .i64],[]⟩) Tryz.f230 (memC JH (memC BB (memC uG zw))) (by kernel_rfl) (by kernel_rfl) fun x=>by kernel_rfl
theorem wX:zm Tryz.prog (gM qg):=
 okC (A:=⟨[QP zB,fM Cs,Uw Zm],[],[],0,[],[],[]⟩) (exS:=⟨[.bool],[]⟩) Tryz.f231 (memC QG (memC vX (memC BB zw))) (by kernel_rfl) (by kernel_rfl) fun x=>by kernel_rfl
theorem zmr:zm Tryz.prog (JY Xw):=
 okC (A:=⟨[QP zB,qp zC],[],[],0,[],[(4,⟨[1],⟨[.int .i64],[]⟩,[0],[],[],0,[],⟨[],[]⟩,[]⟩),(6,⟨[1],⟨[.int .i64],[]⟩,[],[],[],0,[],⟨[],[]⟩,[]⟩)],[]⟩) (exS:=⟨[.bool],[]⟩) Tryz.f232 (memC QG (memC qo zw)) (by kernel_rfl) (by kernel_rfl) fun x=>by kernel_rfl
theorem zpv:zm Tryz.prog (EX Qt):=
 okC (A:=⟨[QP zB,qp zC],[],[],0,[(1,⟨[1],⟨[.int .i64],[]⟩,[0,4],[],[],0,[1],⟨[.int .i64],[]⟩,[]⟩)],[],[]⟩) (exS:=⟨[.int .i64],[]⟩) Tryz.f289 (memC QG (memC qo zw)) (by kernel_rfl) (by kernel_rfl) fun x=>by kernel_rfl
theorem zlG:zm Tryz.prog (PY QH):=
 okC (A:=⟨[QP zB,EX Qt,qp zC],[],[],0,[],[(4,⟨[1],⟨[.int .i64],[]⟩,[0],[],[],0,[],⟨[],[]⟩,[]⟩),(9,⟨[1,7],⟨[.int .i64, .bool],[]⟩,[],[],[],0,[],⟨[],[]⟩,[]⟩),(15,⟨[1,7,9],⟨[.int .i64, .bool, .int .i64],[]⟩,[],[],[],0,[],⟨[],[]⟩,[]⟩),(18,⟨[1,7],⟨[.int .i64, .bool],[]⟩,[],[],[],0,[],⟨[],[]⟩,[]⟩)],[]⟩) (exS:=⟨[.int .i64, .bool],[]⟩) Tryz.f263 (memC QG (memC zpv (memC qo zw))) (by kernel_rfl) (by kernel_rfl) fun x=>by kernel_rfl
theorem zjj:zm Tryz.prog (lY qL):=
 okC (A:=⟨[QP zB,qp zC],[],[],0,[(5,⟨[3,5],⟨[.str, .int .i64],[]⟩,[4],[],[],0,[3,5],⟨[.str, .int .i64],[]⟩,[]⟩),(10,⟨[3,4,5],⟨[.str, .int .i64, .int .i64],[]⟩,[],[],[],2,[3,4,5],⟨[.str, .int .i64, .int .i64],[]⟩,[]⟩),(20,⟨[5,8],⟨[.int .i64, .int .i64],[]⟩,[4],[],[],4,[8],⟨[.int .i64],[]⟩,[]⟩),(28,⟨[9,10],⟨[.int .i64, .int .i64],[]⟩,[4],[],[],6,[9],⟨[.int .i64],[]⟩,[]⟩),(31,⟨[4,9],⟨[.int .i64, .int .i64],[]⟩,[],[],[],8,[9],⟨[.int .i64],[]⟩,[]⟩)],[(5,⟨[3,4,5],⟨[.str, .int .i64, .int .i64],[]⟩,[0,6],[],[],0,[],⟨[],[]⟩,[]⟩),(14,⟨[3,4,5],⟨[.str, .int .i64, .int .i64],[]⟩,[],[],[],0,[],⟨[],[]⟩,[]⟩),(19,⟨[4,5],⟨[.int .i64, .int .i64],[]⟩,[3,7],[],[],0,[],⟨[],[]⟩,[]⟩),(25,⟨[4,8],⟨[.int .i64, .int .i64],[]⟩,[],[],[],0,[],⟨[],[]⟩,[]⟩),(26,⟨[4],⟨[.int .i64],[]⟩,[3],[],[],0,[],⟨[],[]⟩,[]⟩)],[]⟩) (exS:=⟨[.int .i64],[]⟩) Tryz.f264 (memC QG (memC qo zw)) (by kernel_rfl) (by kernel_rfl) fun x=>by kernel_rfl
theorem znG:zm Tryz.prog (EY Ls):=
 okC (A:=⟨[PY QH,lY qL,gM qg,WG Qk,QP zB],[],[],0,[],[(9,⟨[6],⟨[.int .i64],[(0, .row 57),(1, .row 57)]⟩,[4,8],[],[0,1],0,[],⟨[],[]⟩,[]⟩)],[]⟩) (exS:=⟨[.optr 0, .int .i64],[(0, .row 57)]⟩) Tryz.f233 (memC zlG (memC zjj (memC wX (memC UM (memC QG zw))))) (by kernel_rfl) (by kernel_rfl) fun x=>by kernel_rfl
theorem BV:zm Tryz.prog (jL sj):=
 okC (A:=⟨[],[],[],0,[],[],[]⟩) (exS:=⟨[.bool],[]⟩) Tryz.f225 zw (by kernel_rfl) (by kernel_rfl) fun x=>by kernel_rfl
theorem WM:zm Tryz.prog (MG qJ):=
 okC (A:=⟨[XG qK],[],[],0,[],[],[]⟩) (exS:=⟨[.bool],[]⟩) Tryz.f152 (memC VM zw) (by kernel_rfl) (by kernel_rfl) fun x=>by kernel_rfl
theorem zvZ:zm Tryz.prog (oU Rl):=
 okC (A:=⟨[Uw Zm,EB ZC],[],[],0,[(1,⟨[1],⟨[.int .i64],[]⟩,[0,4,5],[0],[],0,[1],⟨[.int .i64],[]⟩,[]⟩)],[],[]⟩) (exS:=⟨[.optr 0, .int .i64],[(0, .row 57)]⟩) Tryz.f290 (memC BB (memC uG zw)) (by kernel_rfl) (by kernel_rfl) fun x=>by kernel_rfl
theorem zjk:zm Tryz.prog (kY Qy):=
 okC (A:=⟨[],[],[],0,[],[],[]⟩) (exS:=⟨[.bool],[]⟩) Tryz.f291 zw (by kernel_rfl) (by kernel_rfl) fun x=>by kernel_rfl
theorem zv0:zm Tryz.prog (nU Er):=
 okC (A:=⟨[rG qE,rA qA,oU Rl,kY Qy,Uw Zm,EB ZC],[],[],0,[(3,⟨[1],⟨[.int .i64],[(0, .row 57),(1, .row 57)]⟩,[0,4,6],[],[0,1],0,[1],⟨[.int .i64],[(0, .row 57),(1, .row 57)]⟩,[0,1]⟩)],[],[]⟩) (exS:=⟨[.optr 0, .int .i64],[(0, .row 57)]⟩) Tryz.f265 (memC uM (memC jG (memC zvZ (memC zjk (memC BB (memC uG zw)))))) (by kernel_rfl) (by kernel_rfl) fun x=>by kernel_rfl
theorem ztr:zm Tryz.prog (nV Nr):=
 okC (A:=⟨[WG Qk,QP zB,MG qJ,rG qE,nU Er],[],[],0,[],[(8,⟨[],⟨[],[(0, .row 57)]⟩,[4,6,7],[],[0],0,[],⟨[],[]⟩,[]⟩)],[]⟩) (exS:=⟨[.optr 0, .int .i64],[(0, .row 57)]⟩) Tryz.f234 (memC UM (memC QG (memC WM (memC uM (memC zv0 zw))))) (by kernel_rfl) (by kernel_rfl) fun x=>by kernel_rfl
theorem ztq:zm Tryz.prog (oV Sr):=
 okC (A:=⟨[],[],[],0,[],[],[]⟩) (exS:=⟨[.int .u8],[]⟩) Tryz.f235 zw (by kernel_rfl) (by kernel_rfl) fun x=>by kernel_rfl
theorem CV:zm Tryz.prog (kL Sl):=
 okC (A:=⟨[rA qA,rG qE,DX mr,OB ZP,Uw Zm,WG Qk,gM qg,JY Xw,EY Ls,jL sj,nV Nr,oV Sr],[],[],0,[],[],[]⟩) (exS:=⟨[.optr 0, .int .i64],[(0, .row 57)]⟩) Tryz.f198 (memC jG (memC uM (memC zpw (memC JH (memC BB (memC UM (memC wX (memC zmr (memC znG (memC BV (memC ztr (memC ztq zw)))))))))))) (by kernel_rfl) (by kernel_rfl) fun x=>by kernel_rfl
theorem zqO:zm Tryz.prog (iW QI):=
 okC (A:=⟨[kL Sl],[(1,[1])],[],0,[],[],[]⟩) (exS:=⟨[.bool],[]⟩) Tryz.f188 (memC CV zw) (by kernel_rfl) (by kernel_rfl) fun x=>by kernel_rfl
theorem ztt:zm Tryz.prog (lV Xz):=
 okC (A:=⟨[dW Ep,mV Yz,iW QI],[],[],0,[],[(6,⟨[8],⟨[.bool],[(1, .row 57)]⟩,[1,3,7],[0],[1],0,[],⟨[],[]⟩,[]⟩),(13,⟨[56],⟨[.bool],[(1, .row 57)]⟩,[],[],[1],0,[],⟨[],[]⟩,[]⟩),(21,⟨[90],⟨[.bool],[(1, .row 57)]⟩,[],[],[1],0,[],⟨[],[]⟩,[]⟩),(26,⟨[148],⟨[.bool],[]⟩,[],[1],[],0,[],⟨[],[]⟩,[]⟩)],[]⟩) (exS:=⟨[.bool],[]⟩) Tryz.f151 (memC zqQ (memC zts (memC zqO zw))) (by kernel_rfl) (by kernel_rfl) fun x=>by kernel_rfl
theorem zqN:zm Tryz.prog (jW Vr):=
 okC (A:=⟨[lV Xz,MG qJ],[],[],0,[(4,⟨[3],⟨[.int .i64],[]⟩,[0],[],[],0,[],⟨[],[]⟩,[]⟩)],[(12,⟨[4],⟨[.int .i64],[]⟩,[3],[],[],0,[],⟨[],[]⟩,[]⟩),(14,⟨[],⟨[],[]⟩,[3],[],[],0,[],⟨[],[]⟩,[]⟩)],[]⟩) (exS:=⟨[.int .i64],[]⟩) Tryz.f99 (memC ztt (memC WM zw)) (by kernel_rfl) (by kernel_rfl) fun x=>by kernel_rfl
theorem znO(qU:List zh->Option Bool)(hs:zm Tryz.prog (CB qU)):zm Tryz.prog (CB (EH qU)):=
 okC (A:=⟨[CB qU],[],[],0,[(2,⟨[3],⟨[.int .i64],[]⟩,[0],[],[],0,[],⟨[],[]⟩,[]⟩)],[],[]⟩) (exS:=⟨[.bool],[]⟩) Tryz.f101 (memC hs zw) (by kernel_rfl) (by kernel_rfl) fun x=>by kernel_rfl
theorem znK:zm Tryz.prog (CB qU):=
 zm.recE (I:=I) (P:=Tryz.prog) (f:=101) (inS:=⟨[.sl 59],[]⟩) (cst:=[]) (outS:=⟨[.bool],[]⟩) (k:=0) (EH) (by kernel_rfl) (fun S h=>znO S h)
theorem znI:zm Tryz.prog (OY yA):=
 okC (A:=⟨[],[],[],0,[(1,⟨[0],⟨[.sl 59],[]⟩,[2],[],[],0,[0],⟨[.sl 59],[]⟩,[]⟩),(3,⟨[0],⟨[.sl 59],[]⟩,[2],[],[],2,[0],⟨[.sl 59],[]⟩,[]⟩)],[],[]⟩) (exS:=⟨[.sl 59],[]⟩) Tryz.f102 zw (by kernel_rfl) (by kernel_rfl) fun x=>by kernel_rfl
theorem zpB:zm Tryz.prog (BX RA):=
 okC (A:=⟨[],[],[],0,[],[],[]⟩) (exS:=⟨[.bool],[]⟩) Tryz.f103 zw (by kernel_rfl) (by kernel_rfl) fun x=>by kernel_rfl
theorem zpC:zm Tryz.prog (rX OA):=
 okC (A:=⟨[bW JA,Q9 Z4,jW Vr,CB qU,OY yA,BX RA],[],[],0,[(6,⟨[5],⟨[.int .i64],[]⟩,[1],[],[],0,[],⟨[],[]⟩,[]⟩)],[],[]⟩) (exS:=⟨[.bool],[]⟩) Tryz.f60 (memC zqR (memC pM (memC zqN (memC znK (memC znI (memC zpB zw)))))) (by kernel_rfl) (by kernel_rfl) fun x=>by kernel_rfl
theorem zqS:zm Tryz.prog (aW Aw):=
 okC (A:=⟨[XW GA,rX OA],[],[],0,[],[],[]⟩) (exS:=⟨[.int .i64],[]⟩) Tryz.f30 (memC zqU (memC zpC zw)) (by kernel_rfl) (by kernel_rfl) fun x=>by kernel_rfl
theorem WX:zm Tryz.prog (jM Dp):=
 okC (A:=⟨[],[],[],0,[],[],[]⟩) (exS:=⟨[.bool],[]⟩) Tryz.f107 zw (by kernel_rfl) (by kernel_rfl) fun x=>by kernel_rfl
theorem GH:zm Tryz.prog (IB qh):=
 okC (A:=⟨[jM Dp],[],[],0,[],[],[]⟩) (exS:=⟨[.bool],[]⟩) Tryz.f65 (memC WX zw) (by kernel_rfl) (by kernel_rfl) fun x=>by kernel_rfl
theorem zlV(ZR:zg->Option Bool)(hs:zm Tryz.prog (WB ZR)):zm Tryz.prog (WB (KH ZR)):=
 okC (A:=⟨[aW Aw,IB qh,WB ZR],[],[],0,[(13,⟨[3],⟨[.int .i64],[]⟩,[],[],[],1,[],⟨[],[]⟩,[]⟩)],[(10,⟨[55],⟨[.bool],[]⟩,[1],[0],[],0,[],⟨[],[]⟩,[]⟩)],[]⟩) (exS:=⟨[.bool],[]⟩) Tryz.f64 (memC zqS (memC GH (memC hs zw))) (by kernel_rfl) (by kernel_rfl) fun x=>by kernel_rfl
theorem zlJ:zm Tryz.prog (WB ZR):=
 zm.recE (I:=I) (P:=Tryz.prog) (f:=64) (inS:=⟨[.val 27],[]⟩) (cst:=[]) (outS:=⟨[.bool],[]⟩) (k:=0) (KH) (by kernel_rfl) (fun S h=>zlV S h)
theorem PH:zm Tryz.prog (QT ZG):=
 okC (A:=⟨[Cw qD,bA ol,WB ZR],[],[],0,[],[],[]⟩) (exS:=⟨[.bool],[]⟩) Tryz.f34 (memC xV (memC ztA (memC zlJ zw))) (by kernel_rfl) (by kernel_rfl) fun x=>by kernel_rfl
theorem zmB(Zz:zg->Option (List z8))(hs:zm Tryz.prog (Qh Zz)):zm Tryz.prog (Qh (sG Zz)):=
 okC (A:=⟨[Qh Zz],[(2,[2])],[],0,[(5,⟨[3,4],⟨[.own 1312, .int .i64],[(1312, .sl 24)]⟩,[1,2],[0],[],0,[3],⟨[.own 1312],[(1312, .sl 24)]⟩,[1312]⟩)],[],[]⟩) (exS:=⟨[.sl 24],[]⟩) Tryz.f35 (memC hs zw) (by kernel_rfl) (by kernel_rfl) fun x=>by kernel_rfl
theorem BN:zm Tryz.prog (Qh Zz):=
 zm.recE (I:=I) (P:=Tryz.prog) (f:=35) (inS:=⟨[.val 27],[]⟩) (cst:=[]) (outS:=⟨[.sl 24],[]⟩) (k:=0) (sG) (by kernel_rfl) (fun S h=>zmB S h)
theorem zqW:zm Tryz.prog (VW BA):=
 okC (A:=⟨[QT ZG,Qh Zz],[],[],0,[],[],[]⟩) (exS:=⟨[.sl 24, .int .i64],[]⟩) Tryz.f11 (memC PH (memC BN zw)) (by kernel_rfl) (by kernel_rfl) fun x=>by kernel_rfl
theorem zhJ:zm Tryz.prog (tY slices_Index_string):=
 okC (A:=⟨[],[],[],0,[(2,⟨[8],⟨[.int .i64],[]⟩,[0,1,7],[],[],0,[],⟨[],[]⟩,[]⟩)],[],[]⟩) (exS:=⟨[.int .i64],[]⟩) Tryz.f175 zw (by kernel_rfl) (by kernel_rfl) fun x=>by kernel_rfl
theorem zgp:zm Tryz.prog (AZ slices_Contains_string):=
 okC (A:=⟨[tY slices_Index_string],[],[],0,[],[],[]⟩) (exS:=⟨[.bool],[]⟩) Tryz.f134 (memC zhJ zw) (by kernel_rfl) (by kernel_rfl) fun x=>by kernel_rfl
theorem zqF:zm Tryz.prog (sW Yv):=
 okC (A:=⟨[AZ slices_Contains_string,OG Qj,qc strings_IndexByte],[(1,[0])],[],0,[],[],[]⟩) (exS:=⟨[.bool],[]⟩) Tryz.f92 (memC zgp (memC YM (memC qC zw))) (by kernel_rfl) (by kernel_rfl) fun x=>by kernel_rfl
theorem bX:zm Tryz.prog (mM Jp):=
 okC (A:=⟨[],[],[],0,[(2,⟨[7],⟨[.int .i64],[]⟩,[5,6],[],[],0,[],⟨[],[]⟩,[]⟩)],[],[]⟩) (exS:=⟨[.int .i64],[]⟩) Tryz.f113 zw (by kernel_rfl) (by kernel_rfl) fun x=>by kernel_rfl
theorem zqG:zm Tryz.prog (rW Xr):=
 okC (A:=⟨[mM Jp],[(1,[1])],[],0,[],[],[]⟩) (exS:=⟨[.int .i64],[]⟩) Tryz.f121 (memC bX zw) (by kernel_rfl) (by kernel_rfl) fun x=>by kernel_rfl
theorem zti:zm Tryz.prog (XV Uv):=
 okC (A:=⟨[VA QW,sW Yv,rW Xr],[],[],0,[(4,⟨[23],⟨[.int .i64],[]⟩,[21,22],[],[],0,[],⟨[],[]⟩,[]⟩)],[(17,⟨[57],⟨[.bool],[]⟩,[4,23],[1],[],0,[],⟨[],[]⟩,[]⟩),(19,⟨[23],⟨[.int .i64],[]⟩,[],[],[],0,[],⟨[],[]⟩,[]⟩)],[]⟩) (exS:=⟨[.bool],[]⟩) Tryz.f80 (memC LG (memC zqF (memC zqG zw))) (by kernel_rfl) (by kernel_rfl) fun x=>by kernel_rfl
theorem zth:zm Tryz.prog (YV oz):=
 okC (A:=⟨[],[],[],0,[],[],[]⟩) (exS:=⟨[.bool],[]⟩) Tryz.f81 zw (by kernel_rfl) (by kernel_rfl) fun x=>by kernel_rfl
theorem zvL:zm Tryz.prog (iU Sz):=
 okC (A:=⟨[VA QW,XV Uv,YV oz],[],[],0,[],[],[]⟩) (exS:=⟨[.bool],[]⟩) Tryz.f46 (memC LG (memC zti (memC zth zw))) (by kernel_rfl) (by kernel_rfl) fun x=>by kernel_rfl
theorem zji:zm Tryz.prog (mY VB):=
 okC (A:=⟨[iU Sz],[],[],0,[],[],[]⟩) (exS:=⟨[.bool],[]⟩) Tryz.f45 (memC zvL zw) (by kernel_rfl) (by kernel_rfl) fun x=>by kernel_rfl
theorem zgP:zm Tryz.prog (EZ Q7):=
 okC (A:=⟨[mY VB],[],[],0,[(2,⟨[8],⟨[.int .i64],[]⟩,[0,1,7],[],[],0,[],⟨[],[]⟩,[]⟩)],[],[]⟩) (exS:=⟨[.int .i64],[]⟩) Tryz.f79 (memC zji zw) (by kernel_rfl) (by kernel_rfl) fun x=>by kernel_rfl
theorem zfw:zm Tryz.prog (KZ qi):=
 okC (A:=⟨[EZ Q7],[],[],0,[],[],[]⟩) (exS:=⟨[.bool],[]⟩) Tryz.f44 (memC zgP zw) (by kernel_rfl) (by kernel_rfl) fun x=>by kernel_rfl
theorem JN:zm Tryz.prog (LH qy):=
 okC (A:=⟨[KZ qi,VA QW],[],[],0,[],[],[]⟩) (exS:=⟨[.int .i64],[]⟩) Tryz.f16 (memC zfw (memC LG zw)) (by kernel_rfl) (by kernel_rfl) fun x=>by kernel_rfl
theorem rV:zm Tryz.prog (NM Jr):=
 okC (A:=⟨[LH qy,NH Zy],[],[],0,[],[],[]⟩) (exS:=⟨[.int .i64],[]⟩) Tryz.f36 (memC JN (memC MN zw)) (by kernel_rfl) (by kernel_rfl) fun x=>by kernel_rfl
theorem zpq:zm Tryz.prog (JX BG):=
 okC (A:=⟨[],[],[],2,[],[],[]⟩) (exS:=⟨[.bool],[(0, .row 3)]⟩) Tryz.f38 zw (by kernel_rfl) (by kernel_rfl) fun x=>by kernel_rfl
theorem zt9(ll:(zg×Int)×Int×List Bool->Option (Bool×Int))(hs:zm Tryz.prog (XA ll)):zm Tryz.prog (XA (wF ll)):=
 okC (A:=⟨[JX BG,XA ll],[],[],2,[(14,⟨[7,8,45],⟨[.bool, .bool, .int .i64],[(0, .row 3)]⟩,[1,2,3,6,43,44],[2],[0],1,[7,8],⟨[.bool, .bool],[(0, .row 3)]⟩,[0]⟩)],[],[]⟩) (exS:=⟨[.bool],[(0, .row 3)]⟩) Tryz.f37 (memC zpq (memC hs zw)) (by kernel_rfl) (by kernel_rfl) fun x=>by kernel_rfl
theorem ztf:zm Tryz.prog (XA ll):=
 zm.recE (I:=I) (P:=Tryz.prog) (f:=37) (inS:=⟨[.val 27, .int .i64, .clo 38 [0,1]],[(0, .row 3),(1, .row 30)]⟩) (cst:=[1]) (outS:=⟨[.bool],[(0, .row 3)]⟩) (k:=0) (wF) (by kernel_rfl) (fun S h=>zt9 S h)
theorem zte:zm Tryz.prog (aV pz):=
 okC (A:=⟨[NM Jr,Ew QQ,XA ll],[],[],0,[],[],[]⟩) (exS:=⟨[.bool, .int .i64],[]⟩) Tryz.f12 (memC rV (memC IW (memC ztf zw))) (by kernel_rfl) (by kernel_rfl) fun x=>by kernel_rfl
theorem zpG:zm Tryz.prog (mX Gw):=
 okC (A:=⟨[XG qK],[],[],0,[(4,⟨[3],⟨[.int .i64],[]⟩,[0],[],[],0,[],⟨[],[]⟩,[]⟩)],[],[]⟩) (exS:=⟨[.bool],[]⟩) Tryz.f154 (memC VM zw) (by kernel_rfl) (by kernel_rfl) fun x=>by kernel_rfl
theorem zxq:zm Tryz.prog (yT xu):=
 okC (A:=⟨[],[],[],0,[],[],[]⟩) (exS:=⟨[.bool],[]⟩) Tryz.f155 zw (by kernel_rfl) (by kernel_rfl) fun x=>by kernel_rfl
theorem AV:zm Tryz.prog (iL ko):=
 okC (A:=⟨[IB qh,jM Dp,mX Gw,yT xu],[],[],0,[(4,⟨[4],⟨[.int .i64],[]⟩,[1],[0],[],0,[],⟨[],[]⟩,[]⟩)],[(5,⟨[4],⟨[.int .i64],[]⟩,[],[],[],0,[],⟨[],[]⟩,[]⟩)],[]⟩) (exS:=⟨[.bool, .bool],[]⟩) Tryz.f108 (memC GH (memC WX (memC zpG (memC zxq zw)))) (by kernel_rfl) (by kernel_rfl) fun x=>by kernel_rfl
theorem VX:zm Tryz.prog (GM QK):=
 okC (A:=⟨[IB qh,iL ko],[],[],0,[],[],[]⟩) (exS:=⟨[.bool],[]⟩) Tryz.f66 (memC GH (memC AV zw)) (by kernel_rfl) (by kernel_rfl) fun x=>by kernel_rfl
theorem oM:zm Tryz.prog (nG Q5):=
 okC (A:=⟨[IB qh,GM QK],[],[],0,[(8,⟨[3],⟨[.int .i64],[]⟩,[1],[0],[],0,[],⟨[],[]⟩,[]⟩)],[],[]⟩) (exS:=⟨[.bool],[]⟩) Tryz.f39 (memC GH (memC VX zw)) (by kernel_rfl) (by kernel_rfl) fun x=>by kernel_rfl
theorem zuk(nk:zg×VEnv×List Bool->Option Bool)(hs:zm Tryz.prog (aA nk)):zm Tryz.prog (aA (EG nk)):=
 okC (A:=⟨[aA nk,Qh Zz],[],[],0,[(16,⟨[2,7,8],⟨[.sl 4, .bool, .int .i64],[]⟩,[3,4,6],[0,1],[],1,[7],⟨[.bool],[]⟩,[]⟩)],[(17,⟨[2,7,8],⟨[.sl 4, .bool, .int .i64],[]⟩,[],[],[],0,[],⟨[],[]⟩,[]⟩)],[]⟩) (exS:=⟨[.bool],[]⟩) Tryz.f40 (memC hs (memC BN zw)) (by kernel_rfl) (by kernel_rfl) fun x=>by kernel_rfl
theorem ztC:zm Tryz.prog (aA nk):=
 zm.recE (I:=I) (P:=Tryz.prog) (f:=40) (inS:=⟨[.val 27, .val 29, .sl 4],[]⟩) (cst:=[]) (outS:=⟨[.bool],[]⟩) (k:=0) (EG) (by kernel_rfl) (fun S h=>zuk S h)
theorem zqY:zm Tryz.prog (PW yz):=
 okC (A:=⟨[nG Q5,QT ZG,Qh Zz,aA nk],[],[],0,[],[],[]⟩) (exS:=⟨[.bool, .int .i64],[]⟩) Tryz.f13 (memC oM (memC PH (memC BN (memC ztC zw)))) (by kernel_rfl) (by kernel_rfl) fun x=>by kernel_rfl
theorem DW:zm Tryz.prog (KM Bl):=
 okC (A:=⟨[ZM strings_HasPrefix],[],[],0,[],[],[]⟩) (exS:=⟨[.int .i64],[]⟩) Tryz.f111 (memC ZY zw) (by kernel_rfl) (by kernel_rfl) fun x=>by kernel_rfl
theorem xM:zm Tryz.prog (BH Z9):=
 okC (A:=⟨[Dw qI,lM Xv,AU mq],[(2,[2]),(3,[1]),(5,[1])],[],1,[],[],[]⟩) (exS:=⟨[.own 1],[(1, .sl 5)]⟩) Tryz.f159 (memC AB (memC aX (memC zxp zw))) (by kernel_rfl) (by kernel_rfl) fun x=>by kernel_rfl
theorem zqI:zm Tryz.prog (oW uz):=
 okC (A:=⟨[CG jl,Dw qI,BH Z9],[(6,[2])],[],0,[(2,⟨[0,11],⟨[.own 1314, .int .i64],[(1314, .sl 5)]⟩,[1,2,6,10],[],[],0,[0],⟨[.own 1314],[(1314, .sl 5)]⟩,[1314]⟩)],[(8,⟨[0,11],⟨[.own 1416, .int .i64],[(1416, .sl 5)]⟩,[],[],[],0,[],⟨[],[]⟩,[]⟩)],[]⟩) (exS:=⟨[.own 0],[(0, .sl 5)]⟩) Tryz.f110 (memC BM (memC AB (memC xM zw))) (by kernel_rfl) (by kernel_rfl) fun x=>by kernel_rfl
theorem FV:zm Tryz.prog (lL uq):=
 okC (A:=⟨[qc strings_IndexByte,KM Bl,oW uz],[],[],0,[],[],[]⟩) (exS:=⟨[.str, .int .i64],[]⟩) Tryz.f67 (memC qC (memC DW (memC zqI zw))) (by kernel_rfl) (by kernel_rfl) fun x=>by kernel_rfl
theorem znE:zm Tryz.prog (GY Z8):=
 okC (A:=⟨[],[],[],2,[],[],[]⟩) (exS:=⟨[],[(0, .row 3),(1, .sl 5)]⟩) Tryz.f114 zw (by kernel_rfl) (by kernel_rfl) fun x=>by kernel_rfl
theorem zqH:zm Tryz.prog (pW vz):=
 okC (A:=⟨[mM Jp,GY Z8],[(1,[1]),(7,[200000])],[],0,[(12,⟨[9,26],⟨[.int .i64, .int .i64],[(1, .sl 5),(2, .row 3)]⟩,[0,6,7,8],[],[1,2],0,[],⟨[],[(1, .sl 5),(2, .row 3)]⟩,[1,2]⟩),(23,⟨[0],⟨[.int .i64],[(1, .sl 5),(2, .row 3)]⟩,[6,7,8],[],[1,2],2,[],⟨[],[(1, .sl 5),(2, .row 3)]⟩,[1,2]⟩)],[(7,⟨[0],⟨[.int .i64],[]⟩,[5],[],[],0,[],⟨[],[]⟩,[]⟩),(17,⟨[9],⟨[.int .i64],[(1, .sl 5),(2, .row 3)]⟩,[10,26],[],[1,2],0,[],⟨[],[]⟩,[]⟩),(20,⟨[9,26],⟨[.int .i64, .int .i64],[(1, .sl 5),(2, .row 3)]⟩,[],[],[1,2],0,[],⟨[],[]⟩,[]⟩),(27,⟨[],⟨[],[(1, .sl 5),(2, .row 3)]⟩,[6,7],[],[1,2],0,[],⟨[],[]⟩,[]⟩)],[]⟩) (exS:=⟨[.str, .int .i64],[]⟩) Tryz.f69 (memC bX (memC znE zw)) (by kernel_rfl) (by kernel_rfl) fun x=>by kernel_rfl
end Go.Lv.VT
end
