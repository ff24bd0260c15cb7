/- Contracts. -/
import Derived.Test.YtkecjfeffabgiaaGreatDoorTx
import Derived.Test.YtkecjfeffabgiaaGreatDoorIp
import Derived.Test.YtkecjfeffabgiaaGreatDoorLf
import Derived.Test.YtkecjfeffabgiaaGreatDoorPa
noncomputable section
set_option linter.unusedSimpArgs false
set_option linter.unusedVariables false
namespace Go.Lv.VT
set_option maxRecDepth 100000
open Go.Proofs
theorem okC{con:Con I}{A:Env0 I}{exS:StSh}(f:Go.Func)(hS: ∀c∈A.S,zm Tryz.prog c)(hf:Tryz.prog.funcs[con.f]? =some f)(h:chk con A f=true)(he: ∀x,evF2 A T FK f.ntmps (rsl f) (body f) con exS x=con.F x):zm Tryz.prog con:=
 okC0 mixed ipOK tok rfl rfl hS hf h he
def Aw(F:zg×Int->Option Int):Con I:=⟨31,⟨[.val 27, .int .i64],[]⟩,[],⟨[.int .i64],[]⟩,0,F⟩
def fA(F:List zh×Int->Option Int):Con I:=⟨104,⟨[.sl 59, .int .i64],[]⟩,[],⟨[.int .i64],[]⟩,0,F⟩
def mG(F:Int->Option Int):Con I:=⟨153,⟨[.int .u8],[]⟩,[],⟨[.int .u8],[]⟩,0,F⟩
def Es(F:List zh->Option Int):Con I:=⟨105,⟨[.sl 59],[]⟩,[],⟨[.int .i64],[]⟩,0,F⟩
def YW(F:List z8->Option Bool):Con I:=⟨61,⟨[.sl 24],[]⟩,[],⟨[.bool],[]⟩,0,F⟩
def YA(F:zg->Option Bool):Con I:=⟨32,⟨[.val 27],[]⟩,[],⟨[.bool],[]⟩,0,F⟩
def UW(F:zg->Option Bool):Con I:=⟨9,⟨[.val 27],[]⟩,[],⟨[.bool],[]⟩,0,F⟩
def MG(F:Int->Option Int):Con I:=⟨58,⟨[.int .u8],[]⟩,[],⟨[.int .u8],[]⟩,0,F⟩
def av(F:List zh×Int->Option Ze):Con I:=⟨85,⟨[.sl 59, .int .u8],[]⟩,[],⟨[.val 111],[]⟩,0,F⟩
def VA(F:List zh->Option Int):Con I:=⟨50,⟨[.sl 59],[]⟩,[],⟨[.int .i64],[]⟩,0,F⟩
def TV(F:List zh->Option (Int×Int)):Con I:=⟨82,⟨[.sl 59],[]⟩,[],⟨[.int .i64, .int .i64],[]⟩,0,F⟩
def rA(F:List zh×List ze->Option (List ze)):Con I:=⟨164,⟨[.own 0, .sl 59],[(0, .sl 57)]⟩,[],⟨[.own 1],[(1, .sl 57)]⟩,1,F⟩
def kW(F:List zh->Option (List ze)):Con I:=⟨164,⟨[.nilv, .sl 59],[]⟩,[],⟨[.own 0],[(0, .sl 57)]⟩,1,F⟩
def aU(F:List zh->Option (List ze×Int)):Con I:=⟨122,⟨[.sl 59],[]⟩,[],⟨[.sl 57, .int .i64],[]⟩,0,F⟩
def qc(F:Str×Int->Option Int):Con I:=⟨109,⟨[.str, .int .u8],[]⟩,[],⟨[.int .i64],[]⟩,0,F⟩
def NN(F:Str×Str->Option Bool):Con I:=⟨173,⟨[.str, .str],[]⟩,[],⟨[.bool],[]⟩,0,F⟩
def ZM(F:Str×Str->Option Bool):Con I:=⟨130,⟨[.str, .str],[]⟩,[],⟨[.bool],[]⟩,0,F⟩
def NG(F:Str->Option Str):Con I:=⟨91,⟨[.str],[]⟩,[],⟨[.str],[]⟩,0,F⟩
def WV(F:Str->Option Bool):Con I:=⟨123,⟨[.str],[]⟩,[],⟨[.bool],[]⟩,0,F⟩
def xY(F:Str×Str->Option Str):Con I:=⟨266,⟨[.str, .str],[]⟩,[],⟨[.str],[]⟩,0,F⟩
def YY(F:Str×Str->Option Str):Con I:=⟨236,⟨[.str, .str],[]⟩,[],⟨[.str],[]⟩,0,F⟩
def Bw(F:Int->Option Bool):Con I:=⟨158,⟨[.int .u8],[]⟩,[],⟨[.bool],[]⟩,0,F⟩
def uM(F:Str->Option Bool):Con I:=⟨199,⟨[.str],[]⟩,[],⟨[.bool],[]⟩,0,F⟩
def iM(F:Int->Option Bool):Con I:=⟨190,⟨[.int .u8],[]⟩,[],⟨[.bool],[]⟩,0,F⟩
def BG(F:Int->Option Bool):Con I:=⟨157,⟨[.int .u8],[]⟩,[],⟨[.bool],[]⟩,0,F⟩
def UY(F:Str×Str->Option Bool):Con I:=⟨200,⟨[.str, .str],[]⟩,[],⟨[.bool],[]⟩,0,F⟩
def dU(F:ze->Option Bool):Con I:=⟨169,⟨[.val 57],[]⟩,[],⟨[.bool],[]⟩,0,F⟩
def IX(F:(Int×Int)×List ze->Option Bool):Con I:=⟨201,⟨[.int .i64, .int .u8, .optr 0],[(0, .row 62)]⟩,[0],⟨[.bool],[]⟩,0,F⟩
def gM(F:Str×Str->Option Bool):Con I:=⟨131,⟨[.str, .str],[]⟩,[],⟨[.bool],[]⟩,0,F⟩
def GM(F:List ze->Option Int):Con I:=⟨170,⟨[.sl 57],[]⟩,[],⟨[.int .i64],[]⟩,0,F⟩
def JM(F:List ze->Option Int):Con I:=⟨124,⟨[.sl 57],[]⟩,[],⟨[.int .i64],[]⟩,0,F⟩
def Iz(F:zh×Int->Option Bool):Con I:=⟨128,⟨[.val 59, .int .u8],[]⟩,[],⟨[.bool],[]⟩,0,F⟩
def KY(F:zh->Option Bool):Con I:=⟨171,⟨[.val 59],[]⟩,[],⟨[.bool],[]⟩,0,F⟩
def yY(F:List zh->Option Int):Con I:=⟨172,⟨[.sl 59, .clo 171 []],[]⟩,[],⟨[.int .i64],[]⟩,0,F⟩
def HZ(F:List zh->Option Bool):Con I:=⟨126,⟨[.sl 59, .clo 171 []],[]⟩,[],⟨[.bool],[]⟩,0,F⟩
def Qs(F:List zh->Option Bool):Con I:=⟨125,⟨[.sl 59],[]⟩,[],⟨[.bool],[]⟩,0,F⟩
def eU(F:zh->Option Bool):Con I:=⟨129,⟨[.val 59],[]⟩,[],⟨[.bool],[]⟩,0,F⟩
def JX(F:zh->Option Bool):Con I:=⟨127,⟨[.val 59],[]⟩,[],⟨[.bool],[]⟩,0,F⟩
def JZ(F:List zh->Option Int):Con I:=⟨172,⟨[.sl 59, .clo 127 []],[]⟩,[],⟨[.int .i64],[]⟩,0,F⟩
def LZ(F:List zh->Option Bool):Con I:=⟨126,⟨[.sl 59, .clo 127 []],[]⟩,[],⟨[.bool],[]⟩,0,F⟩
def KM(F:z8->Option Int):Con I:=⟨83,⟨[.val 24],[]⟩,[],⟨[.int .i64],[]⟩,0,F⟩
def TA(F:zg->Option Bool):Con I:=⟨47,⟨[.val 27],[]⟩,[],⟨[.bool],[]⟩,0,F⟩
def lL(F:zg->Option Bool):Con I:=⟨71,⟨[.val 27],[]⟩,[],⟨[.bool],[]⟩,0,F⟩
def SA(F:zg×Int->Option ((Int×Bool)×Int)):Con I:=⟨48,⟨[.val 27, .optr 0],[(0, .row 3)]⟩,[],⟨[.int .i64, .bool],[(0, .row 3)]⟩,0,F⟩
def LH(F:zg->Option Int):Con I:=⟨18,⟨[.val 27],[]⟩,[],⟨[.int .i64],[]⟩,0,F⟩
def lW(F:Int×List zh->Option Bool):Con I:=⟨106,⟨[.int .i64, .optr 0],[(0, .row 22)]⟩,[0],⟨[.bool],[]⟩,0,F⟩
def bY(F:List zh->Option (List zh)):Con I:=⟨133,⟨[.sl 59],[]⟩,[],⟨[.own 0],[(0, .sl 59)]⟩,1,F⟩
def RA(F:List zh->Option (List zh)):Con I:=⟨88,⟨[.sl 59],[]⟩,[],⟨[.sl 59],[]⟩,0,F⟩
def XU(F:List zh->Option (List zh×Int)):Con I:=⟨62,⟨[.sl 59],[]⟩,[],⟨[.sl 59, .int .i64],[]⟩,0,F⟩
def Cw(F:zg->Option (List z8)):Con I:=⟨33,⟨[.val 27],[]⟩,[],⟨[.sl 24],[]⟩,0,F⟩
def bV(F:zg->Option (List z8×Int)):Con I:=⟨10,⟨[.val 27],[]⟩,[],⟨[.sl 24, .int .i64],[]⟩,0,F⟩
def bA(F:zg->Option Int):Con I:=⟨63,⟨[.val 27],[]⟩,[],⟨[.int .i64],[]⟩,0,F⟩
def Nw(F:Int->Option Int):Con I:=⟨149,⟨[.int .u8],[]⟩,[],⟨[.int .u8],[]⟩,0,F⟩
def KG(F:Str->Option Str):Con I:=⟨97,⟨[.str],[]⟩,[],⟨[.str],[]⟩,0,F⟩
def XW(F:Str->Option Bool):Con I:=⟨59,⟨[.str],[]⟩,[],⟨[.bool],[]⟩,0,F⟩
def Q8(F:List zh->Option (List ze)):Con I:=⟨100,⟨[.sl 59],[]⟩,[],⟨[.sl 57],[]⟩,0,F⟩
def JB(F:List zh×Int->Option Bool):Con I:=⟨150,⟨[.sl 59, .int .u8],[]⟩,[],⟨[.bool],[]⟩,0,F⟩
def bW(F:List zh->Option Int):Con I:=⟨98,⟨[.sl 59],[]⟩,[],⟨[.int .i64],[]⟩,0,F⟩
def dW(F:Str->Option Bool):Con I:=⟨186,⟨[.str],[]⟩,[],⟨[.bool],[]⟩,0,F⟩
def qp(F:Int->Option Bool):Con I:=⟨117,⟨[.int .u8],[]⟩,[],⟨[.bool],[]⟩,0,F⟩
def mV(F:Str->Option Bool):Con I:=⟨187,⟨[.str],[]⟩,[],⟨[.bool],[]⟩,0,F⟩
def nA(F:Int->Option Bool):Con I:=⟨226,⟨[.int .u8],[]⟩,[],⟨[.bool],[]⟩,0,F⟩
def QP(F:Str×Int->Option Int):Con I:=⟨261,⟨[.str, .int .i64],[]⟩,[],⟨[.int .u8],[]⟩,0,F⟩
def oG(F:Str×Int->Option Int):Con I:=⟨227,⟨[.str, .int .i64],[]⟩,[],⟨[.int .i64],[]⟩,0,F⟩
def FM(F:Unit->Option Str):Con I:=⟨286,⟨[],[]⟩,[],⟨[.str],[]⟩,0,F⟩
def pU(F:Int->Option Int):Con I:=⟨287,⟨[.int .u8],[]⟩,[],⟨[.int .i64],[]⟩,0,F⟩
def pV(F:Int->Option Str):Con I:=⟨288,⟨[.int .i64],[]⟩,[],⟨[.str],[]⟩,0,F⟩
def CB(F:Str×Int->Option (Str×Int)):Con I:=⟨262,⟨[.str, .int .i64],[]⟩,[],⟨[.str, .int .i64],[]⟩,0,F⟩
def EX(F:Str×Int->Option (ze×Int)):Con I:=⟨228,⟨[.str, .int .i64],[]⟩,[],⟨[.val 57, .int .i64],[]⟩,0,F⟩
def bM(F:Int->Option Bool):Con I:=⟨165,⟨[.int .u8],[]⟩,[],⟨[.bool],[]⟩,0,F⟩
def NB(F:Int->Option Bool):Con I:=⟨116,⟨[.int .u8],[]⟩,[],⟨[.bool],[]⟩,0,F⟩
def Tw(F:Str×Int->Option Bool):Con I:=⟨229,⟨[.str, .int .i64],[]⟩,[],⟨[.bool],[]⟩,0,F⟩
def VG(F:Str×Int->Option (Str×Int)):Con I:=⟨230,⟨[.str, .int .i64],[]⟩,[],⟨[.str, .int .i64],[]⟩,0,F⟩
def dM(F:Str×Int->Option Bool):Con I:=⟨231,⟨[.str, .int .i64],[]⟩,[],⟨[.bool],[]⟩,0,F⟩
def JY(F:Str×Int->Option Bool):Con I:=⟨232,⟨[.str, .int .i64],[]⟩,[],⟨[.bool],[]⟩,0,F⟩
def FX(F:Str×Int->Option Int):Con I:=⟨289,⟨[.str, .int .i64],[]⟩,[],⟨[.int .i64],[]⟩,0,F⟩
def PY(F:Str×Int->Option (Int×Bool)):Con I:=⟨263,⟨[.str, .int .i64],[]⟩,[],⟨[.int .i64, .bool],[]⟩,0,F⟩
def lY(F:Str->Option Int):Con I:=⟨264,⟨[.str],[]⟩,[],⟨[.int .i64],[]⟩,0,F⟩
def EY(F:Str×Int->Option (ze×Int)):Con I:=⟨233,⟨[.str, .int .i64],[]⟩,[],⟨[.val 57, .int .i64],[]⟩,0,F⟩
def iL(F:Str×Int×Str->Option Bool):Con I:=⟨225,⟨[.str, .int .i64, .str],[]⟩,[],⟨[.bool],[]⟩,0,F⟩
def LG(F:Str×Str->Option Bool):Con I:=⟨152,⟨[.str, .str],[]⟩,[],⟨[.bool],[]⟩,0,F⟩
def oU(F:Str×Int->Option (ze×Int)):Con I:=⟨290,⟨[.str, .int .i64],[]⟩,[],⟨[.val 57, .int .i64],[]⟩,0,F⟩
def kY(F:Int->Option Bool):Con I:=⟨291,⟨[.int .u8],[]⟩,[],⟨[.bool],[]⟩,0,F⟩
def nU(F:Str×Int->Option (ze×Int)):Con I:=⟨265,⟨[.str, .int .i64],[]⟩,[],⟨[.val 57, .int .i64],[]⟩,0,F⟩
def nV(F:Str×Int->Option (ze×Int)):Con I:=⟨234,⟨[.str, .int .i64],[]⟩,[],⟨[.val 57, .int .i64],[]⟩,0,F⟩
def oV(F:Int->Option Int):Con I:=⟨235,⟨[.int .u8],[]⟩,[],⟨[.int .u8],[]⟩,0,F⟩
def jL(F:Str×Int->Option (ze×Int)):Con I:=⟨198,⟨[.str, .int .i64],[]⟩,[],⟨[.val 57, .int .i64],[]⟩,0,F⟩
def iW(F:Int->Option Bool):Con I:=⟨188,⟨[.int .u8],[]⟩,[],⟨[.bool],[]⟩,0,F⟩
def lV(F:ze->Option Bool):Con I:=⟨151,⟨[.val 57],[]⟩,[],⟨[.bool],[]⟩,0,F⟩
def jW(F:List ze->Option Int):Con I:=⟨99,⟨[.sl 57],[]⟩,[],⟨[.int .i64],[]⟩,0,F⟩
def BB(F:List zh->Option Bool):Con I:=⟨101,⟨[.sl 59],[]⟩,[],⟨[.bool],[]⟩,0,F⟩
def CY(F:List zh->Option (List zh)):Con I:=⟨102,⟨[.sl 59],[]⟩,[],⟨[.sl 59],[]⟩,0,F⟩
def CX(F:Str->Option Bool):Con I:=⟨103,⟨[.str],[]⟩,[],⟨[.bool],[]⟩,0,F⟩
def BX(F:Str×List zh->Option Bool):Con I:=⟨60,⟨[.str, .sl 59],[]⟩,[],⟨[.bool],[]⟩,0,F⟩
def aW(F:z8->Option Int):Con I:=⟨30,⟨[.val 24],[]⟩,[],⟨[.int .i64],[]⟩,0,F⟩
def fM(F:z8->Option Bool):Con I:=⟨107,⟨[.val 24],[]⟩,[],⟨[.bool],[]⟩,0,F⟩
def FB(F:zg->Option Bool):Con I:=⟨65,⟨[.val 27],[]⟩,[],⟨[.bool],[]⟩,0,F⟩
def VB(F:zg->Option Bool):Con I:=⟨64,⟨[.val 27],[]⟩,[],⟨[.bool],[]⟩,0,F⟩
def QT(F:zg->Option Bool):Con I:=⟨34,⟨[.val 27],[]⟩,[],⟨[.bool],[]⟩,0,F⟩
def Qh(F:zg->Option (List z8)):Con I:=⟨35,⟨[.val 27],[]⟩,[],⟨[.sl 24],[]⟩,0,F⟩
def VW(F:zg->Option (List z8×Int)):Con I:=⟨11,⟨[.val 27],[]⟩,[],⟨[.sl 24, .int .i64],[]⟩,0,F⟩
def tY(F:List Str×Str->Option Int):Con I:=⟨175,⟨[.sl 9, .str],[]⟩,[],⟨[.int .i64],[]⟩,0,F⟩
def AZ(F:List Str×Str->Option Bool):Con I:=⟨134,⟨[.sl 9, .str],[]⟩,[],⟨[.bool],[]⟩,0,F⟩
def sW(F:Str->Option Bool):Con I:=⟨92,⟨[.str],[]⟩,[],⟨[.bool],[]⟩,0,F⟩
def jM(F:List Int->Option Int):Con I:=⟨113,⟨[.sl 2],[]⟩,[],⟨[.int .i64],[]⟩,0,F⟩
def rW(F:Int->Option Int):Con I:=⟨121,⟨[.int .i64],[]⟩,[],⟨[.int .i64],[]⟩,0,F⟩
def XV(F:zg->Option Bool):Con I:=⟨80,⟨[.val 27],[]⟩,[],⟨[.bool],[]⟩,0,F⟩
def YV(F:zg->Option Bool):Con I:=⟨81,⟨[.val 27],[]⟩,[],⟨[.bool],[]⟩,0,F⟩
def iU(F:zg->Option Bool):Con I:=⟨46,⟨[.val 27],[]⟩,[],⟨[.bool],[]⟩,0,F⟩
def mY(F:zg->Option Bool):Con I:=⟨45,⟨[.val 27],[]⟩,[],⟨[.bool],[]⟩,0,F⟩
def EZ(F:List zg->Option Int):Con I:=⟨79,⟨[.sl 27, .clo 45 []],[]⟩,[],⟨[.int .i64],[]⟩,0,F⟩
def KZ(F:List zg->Option Bool):Con I:=⟨44,⟨[.sl 27, .clo 45 []],[]⟩,[],⟨[.bool],[]⟩,0,F⟩
def JH(F:zg->Option Int):Con I:=⟨16,⟨[.val 27],[]⟩,[],⟨[.int .i64],[]⟩,0,F⟩
def LM(F:zg->Option Int):Con I:=⟨36,⟨[.val 27],[]⟩,[],⟨[.int .i64],[]⟩,0,F⟩
def KX(F:Int×List Bool->Option (Bool×Int)):Con I:=⟨38,⟨[.optr 0, .optr 1],[(0, .row 3),(1, .row 30)]⟩,[1],⟨[.bool],[(0, .row 3)]⟩,0,F⟩
def WA(F:(zg×Int)×Int×List Bool->Option (Bool×Int)):Con I:=⟨37,⟨[.val 27, .int .i64, .clo 38 [0,1]],[(0, .row 3),(1, .row 30)]⟩,[1],⟨[.bool],[(0, .row 3)]⟩,0,F⟩
def aV(F:zg×VEnv×List Bool->Option (Bool×Int)):Con I:=⟨12,⟨[.val 27, .val 29, .sl 4],[]⟩,[],⟨[.bool, .int .i64],[]⟩,0,F⟩
def nX(F:Str->Option Bool):Con I:=⟨154,⟨[.str],[]⟩,[],⟨[.bool],[]⟩,0,F⟩
def AU(F:Int->Option Bool):Con I:=⟨155,⟨[.int .i64],[]⟩,[],⟨[.bool],[]⟩,0,F⟩
def gL(F:zg->Option (Bool×Bool)):Con I:=⟨108,⟨[.val 27],[]⟩,[],⟨[.bool, .bool],[]⟩,0,F⟩
def EM(F:zg->Option Bool):Con I:=⟨66,⟨[.val 27],[]⟩,[],⟨[.bool],[]⟩,0,F⟩
def lG(F:zg->Option Bool):Con I:=⟨39,⟨[.val 27],[]⟩,[],⟨[.bool],[]⟩,0,F⟩
def aA(F:zg×VEnv×List Bool->Option Bool):Con I:=⟨40,⟨[.val 27, .val 29, .sl 4],[]⟩,[],⟨[.bool],[]⟩,0,F⟩
def PW(F:zg×VEnv×List Bool->Option (Bool×Int)):Con I:=⟨13,⟨[.val 27, .val 29, .sl 4],[]⟩,[],⟨[.bool, .int .i64],[]⟩,0,F⟩
def IM(F:Str->Option Int):Con I:=⟨111,⟨[.str],[]⟩,[],⟨[.int .i64],[]⟩,0,F⟩
def xG(F:Int×List UInt8->Option (List UInt8)):Con I:=⟨159,⟨[.own 0, .int .u8],[(0, .sl 5)]⟩,[],⟨[.own 1],[(1, .sl 5)]⟩,1,F⟩
def oW(F:Str×Int->Option (List UInt8)):Con I:=⟨110,⟨[.nilv, .str, .int .i64],[]⟩,[],⟨[.own 0],[(0, .sl 5)]⟩,1,F⟩
def kL(F:Str->Option (Str×Int)):Con I:=⟨67,⟨[.str],[]⟩,[],⟨[.str, .int .i64],[]⟩,0,F⟩
def GY(F:Int×Int×List UInt8->Option (Int×List UInt8)):Con I:=⟨114,⟨[.int .u8, .optr 0, .optr 1],[(0, .row 3),(1, .sl 5)]⟩,[],⟨[],[(0, .row 3),(1, .sl 5)]⟩,0,F⟩
def pW(F:Int->Option (Str×Int)):Con I:=⟨69,⟨[.int .i64],[]⟩,[],⟨[.str, .int .i64],[]⟩,0,F⟩
def gU(F:List zg×Str->Option Str):Con I:=⟨68,⟨[.sl 27, .str, .clo 41 []],[]⟩,[],⟨[.str],[]⟩,0,F⟩
def Fs(F:zg->Option Str):Con I:=⟨41,⟨[.val 27],[]⟩,[],⟨[.str],[]⟩,0,F⟩
def nW(F:(Str×Int)×List UInt8->Option (List UInt8)):Con I:=⟨110,⟨[.own 0, .str, .int .i64],[(0, .sl 5)]⟩,[],⟨[.own 1],[(1, .sl 5)]⟩,1,F⟩
def UV(F:Unit->Option zaT):Con I:=⟨221,⟨[],[]⟩,[],⟨[.val 230],[]⟩,0,F⟩
def FY(F:(Int×Bool)×List UInt8->Option (List UInt8)):Con I:=⟨220,⟨[.own 0, .int .i64, .bool],[(0, .sl 5)]⟩,[],⟨[.own 1],[(1, .sl 5)]⟩,1,F⟩
def mW(F:ze×List UInt8->Option (List UInt8)):Con I:=⟨194,⟨[.own 0, .val 57],[(0, .sl 5)]⟩,[],⟨[.own 1],[(1, .sl 5)]⟩,1,F⟩
def wY(F:zb->Option zb):Con I:=⟨95,⟨[.optr 0],[(0, .row 121)]⟩,[],⟨[],[(0, .row 121)]⟩,0,F⟩
def zH(F:Int×zb->Option Int):Con I:=⟨138,⟨[.optr 0, .int .i64],[(0, .row 121)]⟩,[0],⟨[.int .i64],[]⟩,0,F⟩
def Kw(F:Int->Option Bool):Con I:=⟨139,⟨[.int .i64],[]⟩,[],⟨[.bool],[]⟩,0,F⟩
def QU(F:zb->Option zb):Con I:=⟨140,⟨[.optr 0, .clo 139 []],[(0, .row 121)]⟩,[],⟨[],[(0, .row 121)]⟩,0,F⟩
def GZ(F:Int->Option (List UInt8)):Con I:=⟨244,⟨[.nilv, .int .i32],[]⟩,[],⟨[.own 0],[(0, .sl 5)]⟩,1,F⟩
def eY(F:Int->Option (List UInt8)):Con I:=⟨210,⟨[.nilv, .int .i32],[]⟩,[],⟨[.own 0],[(0, .sl 5)]⟩,1,F⟩
def EB(F:Int×Int×Int->Option Bool):Con I:=⟨212,⟨[.int .i64, .int .i64, .int .i64],[]⟩,[],⟨[.bool],[]⟩,0,F⟩
def Mw(F:Int->Option Bool):Con I:=⟨182,⟨[.int .i64],[]⟩,[],⟨[.bool],[]⟩,0,F⟩
def dL(F:Int->Option Int):Con I:=⟨211,⟨[.int .i64],[]⟩,[],⟨[.int .i64],[]⟩,0,F⟩
def IZ(F:zb->Option (zb×List UInt8)):Con I:=⟨180,⟨[.optr 0, .nilv],[(0, .row 121)]⟩,[],⟨[.own 1],[(0, .row 121),(1, .sl 5)]⟩,1,F⟩
def FZ(F:Int×List UInt8->Option (List UInt8)):Con I:=⟨244,⟨[.own 0, .int .i32],[(0, .sl 5)]⟩,[],⟨[.own 1],[(1, .sl 5)]⟩,1,F⟩
def SY(F:Int×List UInt8->Option (List UInt8)):Con I:=⟨210,⟨[.own 0, .int .i32],[(0, .sl 5)]⟩,[],⟨[.own 1],[(1, .sl 5)]⟩,1,F⟩
def qR(F:zb×List UInt8->Option (zb×List UInt8)):Con I:=⟨180,⟨[.optr 0, .own 1],[(0, .row 121),(1, .sl 5)]⟩,[],⟨[.own 2],[(0, .row 121),(2, .sl 5)]⟩,1,F⟩
def nY(F:zb->Option (ze×zb)):Con I:=⟨141,⟨[.optr 0],[(0, .row 121)]⟩,[],⟨[.val 57],[(0, .row 121)]⟩,0,F⟩
def BM(F:Int->Option Bool):Con I:=⟨181,⟨[.int .i64],[]⟩,[],⟨[.bool],[]⟩,0,F⟩
def YM(F:Int->Option Bool):Con I:=⟨142,⟨[.int .i64],[]⟩,[],⟨[.bool],[]⟩,0,F⟩
def Z5(F:Int×zb->Option Bool):Con I:=⟨143,⟨[.optr 0, .int .i64],[(0, .row 121)]⟩,[0],⟨[.bool],[]⟩,0,F⟩
def MN(F:Int×zb->Option Bool):Con I:=⟨144,⟨[.optr 0, .int .i64],[(0, .row 121)]⟩,[0],⟨[.bool],[]⟩,0,F⟩
def KH(F:zb->Option (Str×zb)):Con I:=⟨145,⟨[.optr 0],[(0, .row 121)]⟩,[],⟨[.str],[(0, .row 121)]⟩,0,F⟩
def pY(F:zb->Option Bool):Con I:=⟨146,⟨[.optr 0],[(0, .row 121)]⟩,[0],⟨[.bool],[]⟩,0,F⟩
def BZ(F:zb->Option zb):Con I:=⟨140,⟨[.optr 0, .clo 182 []],[(0, .row 121)]⟩,[],⟨[],[(0, .row 121)]⟩,0,F⟩
def DZ(F:zb->Option (Bool×zb)):Con I:=⟨183,⟨[.optr 0],[(0, .row 121)]⟩,[],⟨[.bool],[(0, .row 121)]⟩,0,F⟩
def gY(F:Str->Option Int):Con I:=⟨184,⟨[.str],[]⟩,[],⟨[.int .i64],[]⟩,0,F⟩
def CZ(F:zb->Option (ze×zb)):Con I:=⟨147,⟨[.optr 0],[(0, .row 121)]⟩,[],⟨[.val 57],[(0, .row 121)]⟩,0,F⟩
def jY(F:zb->Option (ze×zb)):Con I:=⟨216,⟨[.optr 0],[(0, .row 121)]⟩,[],⟨[.val 57],[(0, .row 121)]⟩,0,F⟩
def iY(F:zb->Option (ze×zb)):Con I:=⟨185,⟨[.optr 0],[(0, .row 121)]⟩,[],⟨[.val 57],[(0, .row 121)]⟩,0,F⟩
def rY(F:zb->Option (ze×zb)):Con I:=⟨148,⟨[.optr 0],[(0, .row 121)]⟩,[],⟨[.val 57],[(0, .row 121)]⟩,0,F⟩
def XY(F:zb->Option (ze×zb)):Con I:=⟨96,⟨[.optr 0],[(0, .row 121)]⟩,[],⟨[.val 57],[(0, .row 121)]⟩,0,F⟩
def TY(F:(ze×Int×Int)×List ze->Option (List ze)):Con I:=⟨56,⟨[.val 57, .int .i64, .int .i64, .optr 0],[(0, .cells 62 [.own 1]),(1, .sl 57)]⟩,[],⟨[],[(0, .cells 62 [.own 2]),(2, .sl 57)]⟩,1,F⟩
def lX(F:Str->Option (Int×List ze)):Con I:=⟨55,⟨[.str, .clo 56 [0]],[(0, .cells 62 [.nilv])]⟩,[],⟨[.int .i64],[(0, .cells 62 [.own 1]),(1, .sl 57)]⟩,1,F⟩
def mX(F:Str->Option (List ze×Int)):Con I:=⟨27,⟨[.str],[]⟩,[],⟨[.sl 57, .int .i64],[]⟩,0,F⟩
def aY(F:List ze×List ze->Option Bool):Con I:=⟨195,⟨[.sl 57, .sl 57],[]⟩,[],⟨[.bool],[]⟩,0,F⟩
def VV(F:List ze->Option (Str×Int)):Con I:=⟨163,⟨[.sl 57],[]⟩,[],⟨[.str, .int .i64],[]⟩,0,F⟩
def YU(F:List zh->Option (Str×Int)):Con I:=⟨115,⟨[.sl 59],[]⟩,[],⟨[.str, .int .i64],[]⟩,0,F⟩
def fU(F:z8->Option (Str×Int)):Con I:=⟨72,⟨[.val 24],[]⟩,[],⟨[.str, .int .i64],[]⟩,0,F⟩
def yM(F:zg×Bool->Option (Str×Bool)):Con I:=⟨70,⟨[.val 27, .optr 0],[(0, .cells 75 [.optr 1]),(1, .row 4)]⟩,[0],⟨[.str],[(1, .row 4)]⟩,0,F⟩
def uW(F:(List zg×Str)×Bool->Option (Str×Bool)):Con I:=⟨68,⟨[.sl 27, .str, .clo 70 [0]],[(0, .cells 75 [.optr 1]),(1, .row 4)]⟩,[0],⟨[.str],[(1, .row 4)]⟩,0,F⟩
def QB(F:zg×Bool->Option (Str×Bool)):Con I:=⟨42,⟨[.val 27, .optr 0],[(0, .row 4)]⟩,[],⟨[.str],[(0, .row 4)]⟩,0,F⟩
def jU(F:zg->Option (Str×Int)):Con I:=⟨14,⟨[.val 27],[]⟩,[],⟨[.str, .int .i64],[]⟩,0,F⟩
def nG(F:Int->Option Str):Con I:=⟨118,⟨[.int .u8],[]⟩,[],⟨[.str],[]⟩,0,F⟩
def jA(F:Str×Bool->Option Str):Con I:=⟨73,⟨[.str, .bool],[]⟩,[],⟨[.str],[]⟩,0,F⟩
def IB(F:Int->Option Str):Con I:=⟨119,⟨[.int .i64],[]⟩,[],⟨[.str],[]⟩,0,F⟩
def dA(F:Int->Option Str):Con I:=⟨74,⟨[.int .i64],[]⟩,[],⟨[.str],[]⟩,0,F⟩
def DX(F:Str×Bool->Option Str):Con I:=⟨222,⟨[.str, .bool],[]⟩,[],⟨[.str],[]⟩,0,F⟩
def MB(F:Int->Option Str):Con I:=⟨260,⟨[.int .i64],[]⟩,[],⟨[.str],[]⟩,0,F⟩
def LB(F:Int×Bool->Option Str):Con I:=⟨223,⟨[.int .i64, .bool],[]⟩,[],⟨[.str],[]⟩,0,F⟩
def jV(F:Str->Option Str):Con I:=⟨224,⟨[.str],[]⟩,[],⟨[.str],[]⟩,0,F⟩
def kV(F:ze->Option Str):Con I:=⟨196,⟨[.val 57],[]⟩,[],⟨[.str],[]⟩,0,F⟩
def gW(F:List ze->Option (Int×Str)):Con I:=⟨166,⟨[.sl 57],[]⟩,[],⟨[.int .i64, .str],[]⟩,0,F⟩
def SV(F:Str×Int->Option Int):Con I:=⟨197,⟨[.str, .int .i64],[]⟩,[],⟨[.int .i64],[]⟩,0,F⟩
def WU(F:Str->Option (List ze×List ZC)):Con I:=⟨167,⟨[.str],[]⟩,[],⟨[.sl 57, .sl 216],[]⟩,0,F⟩
def RV(F:List ze×List ze->Option Bool):Con I:=⟨168,⟨[.sl 57, .sl 57],[]⟩,[],⟨[.bool],[]⟩,0,F⟩
def DY(F:List ze->Option Str):Con I:=⟨120,⟨[.sl 57],[]⟩,[],⟨[.str],[]⟩,0,F⟩
def OY(F:z8->Option Str):Con I:=⟨75,⟨[.val 24],[]⟩,[],⟨[.str],[]⟩,0,F⟩
def pX(F:zg->Option Bool):Con I:=⟨76,⟨[.val 27],[]⟩,[],⟨[.bool],[]⟩,0,F⟩
def aM(F:zg->Option Str):Con I:=⟨77,⟨[.val 27],[]⟩,[],⟨[.str],[]⟩,0,F⟩
def rX(F:List zg×Str×Bool->Option Str):Con I:=⟨78,⟨[.sl 27, .str, .bool],[]⟩,[],⟨[.str],[]⟩,0,F⟩
def qw(F:zg->Option Str):Con I:=⟨43,⟨[.val 27],[]⟩,[],⟨[.str],[]⟩,0,F⟩
def gV(F:zg->Option (Str×Int)):Con I:=⟨15,⟨[.val 27],[]⟩,[],⟨[.str, .int .i64],[]⟩,0,F⟩
def VY(F:zg->Option Int):Con I:=⟨17,⟨[.val 27],[]⟩,[],⟨[.int .i64],[]⟩,0,F⟩
def uY(F:zg->Option Int):Con I:=⟨19,⟨[.val 27],[]⟩,[],⟨[.int .i64],[]⟩,0,F⟩
def UA(F:List zh×List zh->Option Bool):Con I:=⟨84,⟨[.sl 59, .sl 59],[]⟩,[],⟨[.bool],[]⟩,0,F⟩
def WW(F:z8×z8->Option Bool):Con I:=⟨49,⟨[.val 24, .val 24],[]⟩,[],⟨[.bool],[]⟩,0,F⟩
def iV(F:List z8×List z8->Option Bool):Con I:=⟨20,⟨[.sl 24, .sl 24],[]⟩,[],⟨[.bool],[]⟩,0,F⟩
def RY(F:zg×VEnv×List Bool->Option Bool):Con I:=⟨3,⟨[.val 27, .val 29, .sl 4],[]⟩,[],⟨[.bool],[]⟩,0,F⟩
def GX(F:List zh->Option (List ze)):Con I:=⟨164,⟨[.nilv, .sl 59],[]⟩,[],⟨[.sl 57],[]⟩,0,F⟩
def IR(F:Str->Option (Str×Int)):Con I:=⟨94,⟨[.str],[]⟩,[],⟨[.str, .int .i64],[]⟩,0,F⟩
theorem zCA:zm Tryz.prog (IR Rm):=zBE
def FT(F:Str×Int->Option Int):Con I:=⟨156,⟨[.str, .int .u8],[]⟩,[],⟨[.int .i64],[]⟩,0,F⟩
theorem zz7:zm Tryz.prog (FT Oy):=O9
def EK(F:Str×Str->Option Int):Con I:=⟨137,⟨[.str, .str],[]⟩,[],⟨[.int .i64],[]⟩,0,F⟩
theorem NS:zm Tryz.prog (EK Km):=zBF
def GR(F:Str×Str->Option Str):Con I:=⟨213,⟨[.str, .str],[]⟩,[],⟨[.str],[]⟩,0,F⟩
theorem zCB:zm Tryz.prog (GR Nk):=zBG
def FR(F:Str×Str->Option Str):Con I:=⟨258,⟨[.str, .str],[]⟩,[],⟨[.str],[]⟩,0,F⟩
theorem zCC:zm Tryz.prog (FR yn):=zBH
def bU(F:Str×Str->Option Int):Con I:=⟨214,⟨[.str, .str],[]⟩,[],⟨[.int .i64],[]⟩,0,F⟩
theorem zvQ:zm Tryz.prog (bU ek):=zvg
def H6(F:Str×Str->Option (Str×Str×Bool)):Con I:=⟨215,⟨[.str, .str],[]⟩,[],⟨[.str, .str, .bool],[]⟩,0,F⟩
theorem zH1:zm Tryz.prog (H6 cutF):=zHx
def KT(F:Int×Int->Option Str):Con I:=⟨259,⟨[.int .i64, .int .i64],[]⟩,[],⟨[.str],[]⟩,0,F⟩
theorem zz6:zm Tryz.prog (KT Uq):=P9
def BU(F:(Int×Int)×List UInt8->Option (List UInt8)):Con I:=⟨191,⟨[.own 0, .int .u64, .int .i64],[(0, .sl 5)]⟩,[],⟨[.own 1],[(1, .sl 5)]⟩,1,F⟩
theorem zxp:zm Tryz.prog (BU lq):=zw4
def CU(F:(Int×Int)×List UInt8->Option (List UInt8)):Con I:=⟨257,⟨[.own 0, .int .i64, .int .i64],[(0, .sl 5)]⟩,[],⟨[.own 1],[(1, .sl 5)]⟩,1,F⟩
theorem zxo:zm Tryz.prog (CU mq):=zw3
def mI(F:List Str×Str->Option Str):Con I:=⟨112,⟨[.sl 9, .str],[]⟩,[],⟨[.str],[]⟩,0,F⟩
theorem UQ:zm Tryz.prog (mI Bl):=zEC
theorem zui(qD:zg×Int->Option Int)(hs:zm Tryz.prog (Aw qD)):zm Tryz.prog (Aw (Gw qD)):=
 okC (A:=⟨[Aw qD],[],[],0,[(3,⟨[5,6],⟨[.int .i64, .int .i64],[]⟩,[1,2,4],[0],[],0,[5],⟨[.int .i64],[]⟩,[]⟩)],[],[]⟩) (exS:=⟨[.int .i64],[]⟩) Tryz.f31 (memC hs zw) (by kernel_rfl) (by kernel_rfl) fun x=>by kernel_rfl
theorem xV:zm Tryz.prog (Aw qD):=
 zm.recE (I:=I) (P:=Tryz.prog) (f:=31) (inS:=⟨[.val 27, .int .i64],[]⟩) (cst:=[]) (outS:=⟨[.int .i64],[]⟩) (k:=0) (Gw) (by kernel_rfl) (fun S h=>zui S h)
theorem zuf(Qz:List zh×Int->Option Int)(hs:zm Tryz.prog (fA Qz)):zm Tryz.prog (fA (Hw Qz)):=
 okC (A:=⟨[fA Qz],[],[],0,[(3,⟨[5,6],⟨[.int .i64, .int .i64],[]⟩,[0,1,4],[],[],0,[5],⟨[.int .i64],[]⟩,[]⟩)],[],[]⟩) (exS:=⟨[.int .i64],[]⟩) Tryz.f104 (memC hs zw) (by kernel_rfl) (by kernel_rfl) fun x=>by kernel_rfl
theorem ztw:zm Tryz.prog (fA Qz):=
 zm.recE (I:=I) (P:=Tryz.prog) (f:=104) (inS:=⟨[.sl 59, .int .i64],[]⟩) (cst:=[]) (outS:=⟨[.int .i64],[]⟩) (k:=0) (Hw) (by kernel_rfl) (fun S h=>zuf S h)
theorem nM:zm Tryz.prog (mG Q3):=
 okC (A:=⟨[],[],[],0,[],[(6,⟨[6],⟨[.bool],[]⟩,[3],[],[],0,[],⟨[],[]⟩,[]⟩)],[]⟩) (exS:=⟨[.int .u8],[]⟩) Tryz.f153 zw (by kernel_rfl) (by kernel_rfl) fun x=>by kernel_rfl
theorem zua(Qd:List zh->Option Int)(hs:zm Tryz.prog (Es Qd)):zm Tryz.prog (Es (JG Qd)):=
 okC (A:=⟨[mG Q3,Es Qd],[],[],0,[(3,⟨[3,4],⟨[.int .i64, .int .i64],[]⟩,[0,2],[],[],0,[3],⟨[.int .i64],[]⟩,[]⟩)],[(4,⟨[3,4],⟨[.int .i64, .int .i64],[]⟩,[],[],[],0,[],⟨[],[]⟩,[]⟩)],[]⟩) (exS:=⟨[.int .i64],[]⟩) Tryz.f105 (memC nM (memC hs zw)) (by kernel_rfl) (by kernel_rfl) fun x=>by kernel_rfl
theorem wL:zm Tryz.prog (Es Qd):=
 zm.recE (I:=I) (P:=Tryz.prog) (f:=105) (inS:=⟨[.sl 59],[]⟩) (cst:=[]) (outS:=⟨[.int .i64],[]⟩) (k:=0) (JG) (by kernel_rfl) (fun S h=>zua S h)
theorem zqS:zm Tryz.prog (YW GA):=
 okC (A:=⟨[fA Qz,Es Qd],[],[],0,[(5,⟨[3,4],⟨[.int .i64, .int .i64],[]⟩,[0],[],[],0,[],⟨[],[]⟩,[]⟩)],[],[]⟩) (exS:=⟨[.bool],[]⟩) Tryz.f61 (memC ztw (memC wL zw)) (by kernel_rfl) (by kernel_rfl) fun x=>by kernel_rfl
theorem zuk(ik:zg->Option Bool)(hs:zm Tryz.prog (YA ik)):zm Tryz.prog (YA (Fw ik)):=
 okC (A:=⟨[YW GA,YA ik],[(1,[2])],[],0,[(4,⟨[3],⟨[.int .i64],[]⟩,[1],[0],[],0,[],⟨[],[]⟩,[]⟩)],[],[]⟩) (exS:=⟨[.bool],[]⟩) Tryz.f32 (memC zqS (memC hs zw)) (by kernel_rfl) (by kernel_rfl) fun x=>by kernel_rfl
theorem ztC:zm Tryz.prog (YA ik):=
 zm.recE (I:=I) (P:=Tryz.prog) (f:=32) (inS:=⟨[.val 27],[]⟩) (cst:=[]) (outS:=⟨[.bool],[]⟩) (k:=0) (Fw) (by kernel_rfl) (fun S h=>zuk S h)
theorem zqW:zm Tryz.prog (UW yz):=
 okC (A:=⟨[Aw qD,YA ik],[],[],0,[],[],[]⟩) (exS:=⟨[.bool],[]⟩) Tryz.f9 (memC xV (memC ztC zw)) (by kernel_rfl) (by kernel_rfl) fun x=>by kernel_rfl
theorem VM:zm Tryz.prog (MG Jn):=
 okC (A:=⟨[],[],[],0,[],[(7,⟨[6],⟨[.bool],[]⟩,[0],[],[],0,[],⟨[],[]⟩,[]⟩)],[]⟩) (exS:=⟨[.int .u8],[]⟩) Tryz.f58 zw (by kernel_rfl) (by kernel_rfl) fun x=>by kernel_rfl
theorem zwi(sj:List zh×Int->Option Ze)(hs:zm Tryz.prog (av sj)):zm Tryz.prog (av (oF sj)):=
 okC (A:=⟨[MG Jn,av sj],[],[],0,[(3,⟨[12],⟨[.int .i64],[(1, .row 111)]⟩,[1,4,5,10,11],[0],[1],0,[],⟨[],[(1, .row 111)]⟩,[1]⟩)],[(9,⟨[],⟨[],[(1, .row 111)]⟩,[7,8,12],[2],[1],0,[],⟨[],[]⟩,[]⟩),(12,⟨[12],⟨[.int .i64],[(1, .row 111)]⟩,[],[],[1],0,[],⟨[],[]⟩,[]⟩)],[]⟩) (exS:=⟨[.optr 0],[(0, .row 111)]⟩) Tryz.f85 (memC VM (memC hs zw)) (by kernel_rfl) (by kernel_rfl) fun x=>by kernel_rfl
theorem DV:zm Tryz.prog (av sj):=
 zm.recE (I:=I) (P:=Tryz.prog) (f:=85) (inS:=⟨[.sl 59, .int .u8],[]⟩) (cst:=[]) (outS:=⟨[.val 111],[]⟩) (k:=0) (oF) (by kernel_rfl) (fun S h=>zwi S h)
theorem RG:zm Tryz.prog (VA uk):=
 okC (A:=⟨[av sj],[],[],0,[],[],[]⟩) (exS:=⟨[.int .i64],[]⟩) Tryz.f50 (memC DV zw) (by kernel_rfl) (by kernel_rfl) fun x=>by kernel_rfl
theorem ztl:zm Tryz.prog (TV az):=
 okC (A:=⟨[VA uk,av sj],[],[],0,[],[],[]⟩) (exS:=⟨[.int .i64, .int .i64],[]⟩) Tryz.f82 (memC RG (memC DV zw)) (by kernel_rfl) (by kernel_rfl) fun x=>by kernel_rfl
theorem zq6(Xl:List zh×List ze->Option (List ze))(hs:zm Tryz.prog (rA Xl)):zm Tryz.prog (rA (SG Xl)):=
 okC (A:=⟨[MG Jn,rA Xl],[(4,[3]),(7,[6])],[],1,[(2,⟨[0,10],⟨[.own 1001, .int .i64],[(1001, .sl 57)]⟩,[4,8,9],[],[],0,[0],⟨[.own 1001],[(1001, .sl 57)]⟩,[1001]⟩)],[(8,⟨[0,10],⟨[.own 1103, .int .i64],[(1103, .sl 57)]⟩,[],[],[],0,[],⟨[],[]⟩,[]⟩)],[]⟩) (exS:=⟨[.own 1],[(1, .sl 57)]⟩) Tryz.f164 (memC VM (memC hs zw)) (by kernel_rfl) (by kernel_rfl) fun x=>by kernel_rfl
theorem zqL:zm Tryz.prog (rA Xl):=
 zm.recE (I:=I) (P:=Tryz.prog) (f:=164) (inS:=⟨[.own 0, .sl 59],[(0, .sl 57)]⟩) (cst:=[]) (outS:=⟨[.own 1],[(1, .sl 57)]⟩) (k:=1) (SG) (by kernel_rfl) (fun S h=>zq6 S h)
theorem YX:zm Tryz.prog (kW Ep):=
 okC (A:=⟨[MG Jn,rA Xl],[(4,[3]),(7,[6])],[],0,[(2,⟨[0,10],⟨[.own 1105, .int .i64],[(1105, .sl 57)]⟩,[4,8,9],[],[],0,[0],⟨[.own 1105],[(1105, .sl 57)]⟩,[1105]⟩)],[(8,⟨[0,10],⟨[.own 1207, .int .i64],[(1207, .sl 57)]⟩,[],[],[],0,[],⟨[],[]⟩,[]⟩)],[]⟩) (exS:=⟨[.own 0],[(0, .sl 57)]⟩) Tryz.f164 (memC VM (memC zqL zw)) (by kernel_rfl) (by kernel_rfl) fun x=>by kernel_rfl
theorem zpu:zm Tryz.prog (GX Ep):=zA5 ipOK (by kernel_rfl) YX
theorem zvS:zm Tryz.prog (aU Dz):=
 okC (A:=⟨[VA uk,kW Ep],[],[],0,[],[],[]⟩) (exS:=⟨[.sl 57, .int .i64],[]⟩) Tryz.f122 (memC RG (memC YX zw)) (by kernel_rfl) (by kernel_rfl) fun x=>by kernel_rfl
theorem qC:zm Tryz.prog (qc strings_IndexByte):=
 okC (A:=⟨[FT Oy],[],[],0,[],[],[]⟩) (exS:=⟨[.int .i64],[]⟩) Tryz.f109 (memC zz7 zw) (by kernel_rfl) (by kernel_rfl) fun x=>by kernel_rfl
theorem vY:zm Tryz.prog (NN stringslite_HasPrefix):=
 okC (A:=⟨[],[],[],0,[],[],[]⟩) (exS:=⟨[.bool],[]⟩) Tryz.f173 zw (by kernel_rfl) (by kernel_rfl) fun x=>by kernel_rfl
theorem ZY:zm Tryz.prog (ZM strings_HasPrefix):=
 okC (A:=⟨[NN stringslite_HasPrefix],[],[],0,[],[],[]⟩) (exS:=⟨[.bool],[]⟩) Tryz.f130 (memC vY zw) (by kernel_rfl) (by kernel_rfl) fun x=>by kernel_rfl
theorem WM:zm Tryz.prog (NG Qj):=
 okC (A:=⟨[],[],[],0,[(3,⟨[10],⟨[.int .i64],[(0, .sl 5)]⟩,[2,3,8,9],[],[0],0,[],⟨[],[(0, .sl 5)]⟩,[0]⟩)],[(7,⟨[10],⟨[.int .i64],[(0, .sl 5)]⟩,[],[],[0],0,[],⟨[],[]⟩,[]⟩)],[]⟩) (exS:=⟨[.str],[]⟩) Tryz.f91 zw (by kernel_rfl) (by kernel_rfl) fun x=>by kernel_rfl
theorem zti:zm Tryz.prog (WV kz):=
 okC (A:=⟨[qc strings_IndexByte,ZM strings_HasPrefix,NG Qj],[],[],0,[],[],[]⟩) (exS:=⟨[.bool],[]⟩) Tryz.f123 (memC qC (memC ZY (memC WM zw))) (by kernel_rfl) (by kernel_rfl) fun x=>by kernel_rfl
theorem zgq:zm Tryz.prog (xY stringslite_TrimPrefix):=
 okC (A:=⟨[NN stringslite_HasPrefix],[],[],0,[],[],[]⟩) (exS:=⟨[.str],[]⟩) Tryz.f266 (memC vY zw) (by kernel_rfl) (by kernel_rfl) fun x=>by kernel_rfl
theorem zit:zm Tryz.prog (YY strings_TrimPrefix):=
 okC (A:=⟨[xY stringslite_TrimPrefix],[],[],0,[],[],[]⟩) (exS:=⟨[.str],[]⟩) Tryz.f236 (memC zgq zw) (by kernel_rfl) (by kernel_rfl) fun x=>by kernel_rfl
theorem yA:zm Tryz.prog (Bw qI):=
 okC (A:=⟨[],[],[],0,[],[],[]⟩) (exS:=⟨[.bool],[]⟩) Tryz.f158 zw (by kernel_rfl) (by kernel_rfl) fun x=>by kernel_rfl
theorem xX:zm Tryz.prog (uM Cs):=
 okC (A:=⟨[YY strings_TrimPrefix,Bw qI],[],[],0,[],[],[]⟩) (exS:=⟨[.bool],[]⟩) Tryz.f199 (memC zit (memC yA zw)) (by kernel_rfl) (by kernel_rfl) fun x=>by kernel_rfl
theorem bX:zm Tryz.prog (iM Vv):=
 okC (A:=⟨[],[],[],0,[],[],[]⟩) (exS:=⟨[.bool],[]⟩) Tryz.f190 zw (by kernel_rfl) (by kernel_rfl) fun x=>by kernel_rfl
theorem xL:zm Tryz.prog (BG il):=
 okC (A:=⟨[iM Vv,Bw qI],[],[],0,[],[],[]⟩) (exS:=⟨[.bool],[]⟩) Tryz.f157 (memC bX (memC yA zw)) (by kernel_rfl) (by kernel_rfl) fun x=>by kernel_rfl
theorem zkf:zm Tryz.prog (UY strings_Contains):=
 okC (A:=⟨[EK Km],[],[],0,[],[],[]⟩) (exS:=⟨[.bool],[]⟩) Tryz.f200 (memC NS zw) (by kernel_rfl) (by kernel_rfl) fun x=>by kernel_rfl
theorem zvP:zm Tryz.prog (dU Gv):=
 okC (A:=⟨[qc strings_IndexByte,uM Cs,ZM strings_HasPrefix,BG il,UY strings_Contains],[],[],0,[],[(8,⟨[3,4,5,6,7,25],⟨[.bool, .bool, .bool, .bool, .bool, .bool],[]⟩,[1,16],[],[],0,[],⟨[],[]⟩,[]⟩),(14,⟨[3,4,5,6,7,63],⟨[.bool, .bool, .bool, .bool, .bool, .bool],[]⟩,[],[],[],0,[],⟨[],[]⟩,[]⟩),(22,⟨[4,5,6,7,94],⟨[.bool, .bool, .bool, .bool, .bool],[]⟩,[3],[],[],0,[],⟨[],[]⟩,[]⟩),(24,⟨[3,4,5,6,7],⟨[.bool, .bool, .bool, .bool, .bool],[]⟩,[1],[0],[],0,[],⟨[],[]⟩,[]⟩)],[]⟩) (exS:=⟨[.bool],[]⟩) Tryz.f169 (memC qC (memC xX (memC ZY (memC xL (memC zkf zw))))) (by kernel_rfl) (by kernel_rfl) fun x=>by kernel_rfl
theorem zpt:zm Tryz.prog (IX ZN):=
 okC (A:=⟨[],[],[],1,[],[],[]⟩) (exS:=⟨[.bool],[]⟩) Tryz.f201 zw (by kernel_rfl) (by kernel_rfl) fun x=>by kernel_rfl
theorem aX:zm Tryz.prog (gM Kn):=
 okC (A:=⟨[NG Qj],[],[],0,[],[],[]⟩) (exS:=⟨[.bool],[]⟩) Tryz.f131 (memC WM zw) (by kernel_rfl) (by kernel_rfl) fun x=>by kernel_rfl
theorem CW:zm Tryz.prog (GM QS):=
 okC (A:=⟨[IX ZN,gM Kn],[],[],0,[],[(11,⟨[5],⟨[.int .i64],[]⟩,[3],[0],[],0,[],⟨[],[]⟩,[]⟩)],[]⟩) (exS:=⟨[.int .i64],[]⟩) Tryz.f170 (memC zpt (memC aX zw)) (by kernel_rfl) (by kernel_rfl) fun x=>by kernel_rfl
theorem EW:zm Tryz.prog (JM QR):=
 okC (A:=⟨[dU Gv,GM QS],[],[],0,[(4,⟨[10],⟨[.int .i64],[]⟩,[0,8,9],[],[],0,[],⟨[],[]⟩,[]⟩)],[],[]⟩) (exS:=⟨[.int .i64],[]⟩) Tryz.f124 (memC zvP (memC CW zw)) (by kernel_rfl) (by kernel_rfl) fun x=>by kernel_rfl
theorem WF:zm Tryz.prog (Iz xh):=
 okC (A:=⟨[],[],[],0,[],[],[]⟩) (exS:=⟨[.bool],[]⟩) Tryz.f128 zw (by kernel_rfl) (by kernel_rfl) fun x=>by kernel_rfl
theorem zmq(zI:List zh->Option Bool)(h_decl_closers:zm Tryz.prog (Qs zI)):zm Tryz.prog (KY (Sw zI)):=
 okC (A:=⟨[Iz xh,Qs zI],[],[],0,[],[],[]⟩) (exS:=⟨[.bool],[]⟩) Tryz.f171 (memC WF (memC h_decl_closers zw)) (by kernel_rfl) (by kernel_rfl) fun x=>by kernel_rfl
theorem zgp(zI:List zh->Option Bool)(h_decl_closers:zm Tryz.prog (Qs zI)):zm Tryz.prog (yY (QM zI)):=
 okC (A:=⟨[KY (Sw zI)],[],[],0,[(2,⟨[8],⟨[.int .i64],[]⟩,[0,1,7],[],[],0,[],⟨[],[]⟩,[]⟩)],[],[]⟩) (exS:=⟨[.int .i64],[]⟩) Tryz.f172 (memC (zmq zI h_decl_closers) zw) (by kernel_rfl) (by kernel_rfl) fun x=>by kernel_rfl
theorem zeL(zI:List zh->Option Bool)(h_decl_closers:zm Tryz.prog (Qs zI)):zm Tryz.prog (HZ (qV zI)):=
 okC (A:=⟨[yY (QM zI)],[],[],0,[],[],[]⟩) (exS:=⟨[.bool],[]⟩) Tryz.f126 (memC (zgp zI h_decl_closers) zw) (by kernel_rfl) (by kernel_rfl) fun x=>by kernel_rfl
theorem zpZ(zI:List zh->Option Bool)(hs:zm Tryz.prog (Qs zI)):zm Tryz.prog (Qs (kG zI)):=
 okC (A:=⟨[HZ (qV zI)],[],[],0,[],[],[]⟩) (exS:=⟨[.bool],[]⟩) Tryz.f125 (memC (zeL zI hs) zw) (by kernel_rfl) (by kernel_rfl) fun x=>by kernel_rfl
theorem zps:zm Tryz.prog (Qs zI):=
 zm.recE (I:=I) (P:=Tryz.prog) (f:=125) (inS:=⟨[.sl 59],[]⟩) (cst:=[]) (outS:=⟨[.bool],[]⟩) (k:=0) (kG) (by kernel_rfl) (fun S h=>zpZ S h)
theorem zvO:zm Tryz.prog (eU TF):=
 okC (A:=⟨[Iz xh],[],[],0,[],[],[]⟩) (exS:=⟨[.bool],[]⟩) Tryz.f129 (memC WF zw) (by kernel_rfl) (by kernel_rfl) fun x=>by kernel_rfl
theorem zpr:zm Tryz.prog (JX XA):=
 okC (A:=⟨[Iz xh,eU TF],[],[],0,[],[],[]⟩) (exS:=⟨[.bool],[]⟩) Tryz.f127 (memC WF (memC zvO zw)) (by kernel_rfl) (by kernel_rfl) fun x=>by kernel_rfl
theorem zfw:zm Tryz.prog (JZ Qf):=
 okC (A:=⟨[JX XA],[],[],0,[(2,⟨[8],⟨[.int .i64],[]⟩,[0,1,7],[],[],0,[],⟨[],[]⟩,[]⟩)],[],[]⟩) (exS:=⟨[.int .i64],[]⟩) Tryz.f172 (memC zpr zw) (by kernel_rfl) (by kernel_rfl) fun x=>by kernel_rfl
theorem zeb:zm Tryz.prog (LZ ZT):=
 okC (A:=⟨[JZ Qf],[],[],0,[],[],[]⟩) (exS:=⟨[.bool],[]⟩) Tryz.f126 (memC zfw zw) (by kernel_rfl) (by kernel_rfl) fun x=>by kernel_rfl
theorem FW:zm Tryz.prog (KM wo):=
 okC (A:=⟨[aU Dz,WV kz,JM QR,Qs zI,LZ ZT,ZM strings_HasPrefix,Iz xh],[],[],0,[],[],[]⟩) (exS:=⟨[.int .i64],[]⟩) Tryz.f83 (memC zvS (memC zti (memC EW (memC zps (memC zeb (memC ZY (memC WF zw))))))) (by kernel_rfl) (by kernel_rfl) fun x=>by kernel_rfl
theorem tF:zm Tryz.prog (TA QV):=
 okC (A:=⟨[],[],[],0,[],[],[]⟩) (exS:=⟨[.bool],[]⟩) Tryz.f47 zw (by kernel_rfl) (by kernel_rfl) fun x=>by kernel_rfl
theorem GV:zm Tryz.prog (lL Cr):=
 okC (A:=⟨[],[],[],0,[],[],[]⟩) (exS:=⟨[.bool],[]⟩) Tryz.f71 zw (by kernel_rfl) (by kernel_rfl) fun x=>by kernel_rfl
theorem zwh(Nj:zg×Int->Option ((Int×Bool)×Int))(hs:zm Tryz.prog (SA Nj)):zm Tryz.prog (SA (Xv Nj)):=
 okC (A:=⟨[TV az,KM wo,TA QV,SA Nj,lL Cr],[],[],1,[(19,⟨[9,97],⟨[.int .i64, .int .i64],[(0, .row 3)]⟩,[1,95,96],[],[0],1,[9],⟨[.int .i64],[(0, .row 3)]⟩,[0]⟩)],[(15,⟨[69],⟨[.bool],[]⟩,[1,2,6],[0,1],[],0,[],⟨[],[]⟩,[]⟩),(26,⟨[9,12],⟨[.int .i64, .int .i64],[]⟩,[97],[0],[],0,[],⟨[],[]⟩,[]⟩)],[]⟩) (exS:=⟨[.int .i64, .bool],[(0, .row 3)]⟩) Tryz.f48 (memC ztl (memC FW (memC tF (memC hs (memC GV zw))))) (by kernel_rfl) (by kernel_rfl) fun x=>by kernel_rfl
theorem zvM:zm Tryz.prog (SA Nj):=
 zm.recE (I:=I) (P:=Tryz.prog) (f:=48) (inS:=⟨[.val 27, .optr 0],[(0, .row 3)]⟩) (cst:=[]) (outS:=⟨[.int .i64, .bool],[(0, .row 3)]⟩) (k:=0) (Xv) (by kernel_rfl) (fun S h=>zwh S h)
theorem JN:zm Tryz.prog (LH ZH):=
 okC (A:=⟨[SA Nj],[],[],0,[],[],[]⟩) (exS:=⟨[.int .i64],[]⟩) Tryz.f18 (memC zvM zw) (by kernel_rfl) (by kernel_rfl) fun x=>by kernel_rfl
theorem zqK:zm Tryz.prog (lW Tv):=
 okC (A:=⟨[],[],[],1,[],[],[]⟩) (exS:=⟨[.bool],[]⟩) Tryz.f106 zw (by kernel_rfl) (by kernel_rfl) fun x=>by kernel_rfl
theorem zir:zm Tryz.prog (bY Q5):=
 okC (A:=⟨[],[],[],0,[],[],[]⟩) (exS:=⟨[.own 0],[(0, .sl 59)]⟩) Tryz.f133 zw (by kernel_rfl) (by kernel_rfl) fun x=>by kernel_rfl
theorem zwj(Sl:List zh->Option (List zh))(hs:zm Tryz.prog (RA Sl)):zm Tryz.prog (RA (mF Sl)):=
 okC (A:=⟨[bY Q5,RA Sl],[],[],0,[(3,⟨[8],⟨[.int .i64],[(0, .sl 59)]⟩,[0,2,7],[],[0],0,[],⟨[],[(0, .sl 59)]⟩,[0]⟩)],[],[]⟩) (exS:=⟨[.sl 59],[]⟩) Tryz.f88 (memC zir (memC hs zw)) (by kernel_rfl) (by kernel_rfl) fun x=>by kernel_rfl
theorem zvV:zm Tryz.prog (RA Sl):=
 zm.recE (I:=I) (P:=Tryz.prog) (f:=88) (inS:=⟨[.sl 59],[]⟩) (cst:=[]) (outS:=⟨[.sl 59],[]⟩) (k:=0) (mF) (by kernel_rfl) (fun S h=>zwj S h)
theorem zvU:zm Tryz.prog (XU wm):=
 okC (A:=⟨[VA uk,lW Tv,RA Sl],[],[],0,[(6,⟨[6],⟨[.int .i64],[]⟩,[1,2,3,5,7],[0],[],0,[6],⟨[.int .i64],[]⟩,[]⟩),(8,⟨[7],⟨[.int .i64],[]⟩,[1,2,3,5,6],[0],[],2,[7],⟨[.int .i64],[]⟩,[]⟩)],[],[]⟩) (exS:=⟨[.sl 59, .int .i64],[]⟩) Tryz.f62 (memC RG (memC zqK (memC zvV zw))) (by kernel_rfl) (by kernel_rfl) fun x=>by kernel_rfl
theorem zt7(QQ:zg->Option (List z8))(hs:zm Tryz.prog (Cw QQ)):zm Tryz.prog (Cw (wF QQ)):=
 okC (A:=⟨[XU wm,Cw QQ],[(4,[1])],[],0,[(7,⟨[4,24],⟨[.own 1208, .int .i64],[(1208, .sl 24)]⟩,[2,22,23],[],[],0,[4],⟨[.own 1208],[(1208, .sl 24)]⟩,[1208]⟩)],[],[]⟩) (exS:=⟨[.sl 24],[]⟩) Tryz.f33 (memC zvU (memC hs zw)) (by kernel_rfl) (by kernel_rfl) fun x=>by kernel_rfl
theorem IW:zm Tryz.prog (Cw QQ):=
 zm.recE (I:=I) (P:=Tryz.prog) (f:=33) (inS:=⟨[.val 27],[]⟩) (cst:=[]) (outS:=⟨[.sl 24],[]⟩) (k:=0) (wF) (by kernel_rfl) (fun S h=>zt7 S h)
theorem ztc:zm Tryz.prog (bV Sz):=
 okC (A:=⟨[LH ZH,Cw QQ],[],[],0,[],[],[]⟩) (exS:=⟨[.sl 24, .int .i64],[]⟩) Tryz.f10 (memC JN (memC IW zw)) (by kernel_rfl) (by kernel_rfl) fun x=>by kernel_rfl
theorem zuh(ll:zg->Option Int)(hs:zm Tryz.prog (bA ll)):zm Tryz.prog (bA (EG ll)):=
 okC (A:=⟨[Es Qd,bA ll],[],[],0,[(7,⟨[3,4],⟨[.int .i64, .int .i64],[]⟩,[1,2],[0],[],0,[3],⟨[.int .i64],[]⟩,[]⟩)],[(13,⟨[3,6],⟨[.int .i64, .int .i64],[]⟩,[4],[],[],0,[],⟨[],[]⟩,[]⟩)],[]⟩) (exS:=⟨[.int .i64],[]⟩) Tryz.f63 (memC wL (memC hs zw)) (by kernel_rfl) (by kernel_rfl) fun x=>by kernel_rfl
theorem ztz:zm Tryz.prog (bA ll):=
 zm.recE (I:=I) (P:=Tryz.prog) (f:=63) (inS:=⟨[.val 27],[]⟩) (cst:=[]) (outS:=⟨[.int .i64],[]⟩) (k:=0) (EG) (by kernel_rfl) (fun S h=>zuh S h)
theorem SB:zm Tryz.prog (Nw qd):=
 okC (A:=⟨[],[],[],0,[],[],[]⟩) (exS:=⟨[.int .u8],[]⟩) Tryz.f149 zw (by kernel_rfl) (by kernel_rfl) fun x=>by kernel_rfl
theorem TM:zm Tryz.prog (KG qK):=
 okC (A:=⟨[Nw qd],[],[],0,[(3,⟨[4],⟨[.int .i64],[(0, .sl 5)]⟩,[2,3],[],[0],0,[],⟨[],[(0, .sl 5)]⟩,[0]⟩)],[],[]⟩) (exS:=⟨[.str],[]⟩) Tryz.f97 (memC SB zw) (by kernel_rfl) (by kernel_rfl) fun x=>by kernel_rfl
theorem zqT:zm Tryz.prog (XW EA):=
 okC (A:=⟨[KG qK],[],[],0,[(4,⟨[3],⟨[.int .i64],[]⟩,[0],[],[],0,[],⟨[],[]⟩,[]⟩)],[],[]⟩) (exS:=⟨[.bool],[]⟩) Tryz.f59 (memC TM zw) (by kernel_rfl) (by kernel_rfl) fun x=>by kernel_rfl
theorem zp2(Z4:List zh->Option (List ze))(hs:zm Tryz.prog (Q8 Z4)):zm Tryz.prog (Q8 (bG Z4)):=
 okC (A:=⟨[mG Q3,Q8 Z4],[(5,[6]),(9,[3])],[],0,[(3,⟨[3,4],⟨[.own 1209, .int .i64],[(1209, .sl 57)]⟩,[0,2],[],[],0,[3],⟨[.own 1209],[(1209, .sl 57)]⟩,[1209]⟩)],[(4,⟨[3,4],⟨[.own 1311, .int .i64],[(1311, .sl 57)]⟩,[],[],[],0,[],⟨[],[]⟩,[]⟩)],[]⟩) (exS:=⟨[.sl 57],[]⟩) Tryz.f100 (memC nM (memC hs zw)) (by kernel_rfl) (by kernel_rfl) fun x=>by kernel_rfl
theorem mM:zm Tryz.prog (Q8 Z4):=
 zm.recE (I:=I) (P:=Tryz.prog) (f:=100) (inS:=⟨[.sl 59],[]⟩) (cst:=[]) (outS:=⟨[.sl 57],[]⟩) (k:=0) (bG) (by kernel_rfl) (fun S h=>zp2 S h)
theorem zp3(Qv:List zh×Int->Option Bool)(hs:zm Tryz.prog (JB Qv)):zm Tryz.prog (JB (aG Qv)):=
 okC (A:=⟨[mG Q3,JB Qv],[],[],0,[(2,⟨[5],⟨[.int .i64],[]⟩,[0,1],[],[],0,[],⟨[],[]⟩,[]⟩)],[],[]⟩) (exS:=⟨[.bool],[]⟩) Tryz.f150 (memC nM (memC hs zw)) (by kernel_rfl) (by kernel_rfl) fun x=>by kernel_rfl
theorem zpA:zm Tryz.prog (JB Qv):=
 zm.recE (I:=I) (P:=Tryz.prog) (f:=150) (inS:=⟨[.sl 59, .int .u8],[]⟩) (cst:=[]) (outS:=⟨[.bool],[]⟩) (k:=0) (aG) (by kernel_rfl) (fun S h=>zp3 S h)
theorem zqQ:zm Tryz.prog (bW IA):=
 okC (A:=⟨[Es Qd,Q8 Z4,JB Qv],[],[],0,[],[],[]⟩) (exS:=⟨[.int .i64],[]⟩) Tryz.f98 (memC wL (memC mM (memC zpA zw))) (by kernel_rfl) (by kernel_rfl) fun x=>by kernel_rfl
theorem zqP:zm Tryz.prog (dW Dp):=
 okC (A:=⟨[],[],[],0,[(2,⟨[3],⟨[.int .i64],[]⟩,[0],[],[],0,[],⟨[],[]⟩,[]⟩)],[],[]⟩) (exS:=⟨[.bool],[]⟩) Tryz.f186 zw (by kernel_rfl) (by kernel_rfl) fun x=>by kernel_rfl
theorem qo:zm Tryz.prog (qp zC):=
 okC (A:=⟨[],[],[],0,[],[],[]⟩) (exS:=⟨[.bool],[]⟩) Tryz.f117 zw (by kernel_rfl) (by kernel_rfl) fun x=>by kernel_rfl
theorem ztr:zm Tryz.prog (mV Xz):=
 okC (A:=⟨[qp zC],[],[],0,[],[],[]⟩) (exS:=⟨[.bool],[]⟩) Tryz.f187 (memC qo zw) (by kernel_rfl) (by kernel_rfl) fun x=>by kernel_rfl
theorem gG:zm Tryz.prog (nA qA):=
 okC (A:=⟨[],[],[],0,[],[],[]⟩) (exS:=⟨[.bool],[]⟩) Tryz.f226 zw (by kernel_rfl) (by kernel_rfl) fun x=>by kernel_rfl
theorem QG:zm Tryz.prog (QP zB):=
 okC (A:=⟨[],[],[],0,[],[],[]⟩) (exS:=⟨[.int .u8],[]⟩) Tryz.f261 zw (by kernel_rfl) (by kernel_rfl) fun x=>by kernel_rfl
theorem pM:zm Tryz.prog (oG qE):=
 okC (A:=⟨[QP zB,nA qA],[],[],0,[(1,⟨[1],⟨[.int .i64],[]⟩,[0,4],[],[],0,[1],⟨[.int .i64],[]⟩,[]⟩)],[],[]⟩) (exS:=⟨[.int .i64],[]⟩) Tryz.f227 (memC QG (memC gG zw)) (by kernel_rfl) (by kernel_rfl) fun x=>by kernel_rfl
theorem yV:zm Tryz.prog (FM mo):=
 okC (A:=⟨[],[(1,[0])],[],0,[],[],[]⟩) (exS:=⟨[.str],[]⟩) Tryz.f286 zw (by kernel_rfl) (by kernel_rfl) fun x=>by kernel_rfl
theorem zvX:zm Tryz.prog (pU Bn):=
 okC (A:=⟨[qp zC,Nw qd],[],[],0,[],[],[]⟩) (exS:=⟨[.int .i64],[]⟩) Tryz.f287 (memC qo (memC SB zw)) (by kernel_rfl) (by kernel_rfl) fun x=>by kernel_rfl
theorem zto:zm Tryz.prog (pV Ov):=
 okC (A:=⟨[FM mo],[(4,[2]),(6,[8]),(8,[13]),(9,[18])],[],0,[],[],[]⟩) (exS:=⟨[.str],[]⟩) Tryz.f288 (memC yV zw) (by kernel_rfl) (by kernel_rfl) fun x=>by kernel_rfl
theorem rG:zm Tryz.prog (CB ZB):=
 okC (A:=⟨[FM mo,pU Bn,QP zB,nA qA,pV Ov],[],[],0,[(7,⟨[6,7],⟨[.int .i64, .int .i64],[]⟩,[0,1,4,5],[],[],0,[6,7],⟨[.int .i64, .int .i64],[]⟩,[]⟩)],[(12,⟨[7],⟨[.int .i64],[]⟩,[6],[],[],0,[],⟨[],[]⟩,[]⟩)],[]⟩) (exS:=⟨[.str, .int .i64],[]⟩) Tryz.f262 (memC yV (memC zvX (memC QG (memC gG (memC zto zw))))) (by kernel_rfl) (by kernel_rfl) fun x=>by kernel_rfl
theorem zpw:zm Tryz.prog (EX jr):=
 okC (A:=⟨[CB ZB],[],[],0,[(4,⟨[1],⟨[.int .i64],[(0, .row 57),(1, .row 57)]⟩,[0,4,6,7],[],[0,1],0,[1],⟨[.int .i64],[(0, .row 57),(1, .row 57)]⟩,[0,1]⟩)],[],[]⟩) (exS:=⟨[.optr 0, .int .i64],[(0, .row 57)]⟩) Tryz.f228 (memC rG zw) (by kernel_rfl) (by kernel_rfl) fun x=>by kernel_rfl
theorem vX:zm Tryz.prog (bM kr):=
 okC (A:=⟨[Nw qd],[],[],0,[],[],[]⟩) (exS:=⟨[.bool],[]⟩) Tryz.f165 (memC SB zw) (by kernel_rfl) (by kernel_rfl) fun x=>by kernel_rfl
theorem FH:zm Tryz.prog (NB ZP):=
 okC (A:=⟨[bM kr,qp zC],[],[],0,[],[],[]⟩) (exS:=⟨[.bool],[]⟩) Tryz.f116 (memC vX (memC qo zw)) (by kernel_rfl) (by kernel_rfl) fun x=>by kernel_rfl
theorem AB:zm Tryz.prog (Tw Zm):=
 okC (A:=⟨[QP zB],[],[],0,[],[],[]⟩) (exS:=⟨[.bool],[]⟩) Tryz.f229 (memC QG zw) (by kernel_rfl) (by kernel_rfl) fun x=>by kernel_rfl
theorem PM:zm Tryz.prog (VG Qk):=
 okC (A:=⟨[NB ZP,Tw Zm,CB ZB],[],[],0,[(2,⟨[1,6],⟨[.int .i64, .str],[]⟩,[0],[],[],0,[],⟨[],[]⟩,[]⟩)],[],[]⟩) (exS:=⟨[.str, .int .i64],[]⟩) Tryz.f230 (memC FH (memC AB (memC rG zw))) (by kernel_rfl) (by kernel_rfl) fun x=>by kernel_rfl
theorem wX:zm Tryz.prog (dM qg):=
 okC (A:=⟨[QP zB,bM kr,Tw Zm],[],[],0,[],[],[]⟩) (exS:=⟨[.bool],[]⟩) Tryz.f231 (memC QG (memC vX (memC AB zw))) (by kernel_rfl) (by kernel_rfl) fun x=>by kernel_rfl
theorem zmr:zm Tryz.prog (JY Rw):=
 okC (A:=⟨[QP zB,qp zC],[],[],0,[],[(4,⟨[1],⟨[.int .i64],[]⟩,[0],[],[],0,[],⟨[],[]⟩,[]⟩),(6,⟨[1],⟨[.int .i64],[]⟩,[],[],[],0,[],⟨[],[]⟩,[]⟩)],[]⟩) (exS:=⟨[.bool],[]⟩) Tryz.f232 (memC QG (memC qo zw)) (by kernel_rfl) (by kernel_rfl) fun x=>by kernel_rfl
theorem zpv:zm Tryz.prog (FX Qt):=
 okC (A:=⟨[QP zB,qp zC],[],[],0,[(1,⟨[1],⟨[.int .i64],[]⟩,[0,4],[],[],0,[1],⟨[.int .i64],[]⟩,[]⟩)],[],[]⟩) (exS:=⟨[.int .i64],[]⟩) Tryz.f289 (memC QG (memC qo zw)) (by kernel_rfl) (by kernel_rfl) fun x=>by kernel_rfl
theorem zlG:zm Tryz.prog (PY QH):=
 okC (A:=⟨[QP zB,FX Qt,qp zC],[],[],0,[],[(4,⟨[1],⟨[.int .i64],[]⟩,[0],[],[],0,[],⟨[],[]⟩,[]⟩),(9,⟨[1,7],⟨[.int .i64, .bool],[]⟩,[],[],[],0,[],⟨[],[]⟩,[]⟩),(15,⟨[1,7,9],⟨[.int .i64, .bool, .int .i64],[]⟩,[],[],[],0,[],⟨[],[]⟩,[]⟩),(18,⟨[1,7],⟨[.int .i64, .bool],[]⟩,[],[],[],0,[],⟨[],[]⟩,[]⟩)],[]⟩) (exS:=⟨[.int .i64, .bool],[]⟩) Tryz.f263 (memC QG (memC zpv (memC qo zw))) (by kernel_rfl) (by kernel_rfl) fun x=>by kernel_rfl
theorem zji:zm Tryz.prog (lY qL):=
 okC (A:=⟨[QP zB,qp zC],[],[],0,[(5,⟨[3,5],⟨[.str, .int .i64],[]⟩,[4],[],[],0,[3,5],⟨[.str, .int .i64],[]⟩,[]⟩),(10,⟨[3,4,5],⟨[.str, .int .i64, .int .i64],[]⟩,[],[],[],2,[3,4,5],⟨[.str, .int .i64, .int .i64],[]⟩,[]⟩),(20,⟨[5,8],⟨[.int .i64, .int .i64],[]⟩,[4],[],[],4,[8],⟨[.int .i64],[]⟩,[]⟩),(28,⟨[9,10],⟨[.int .i64, .int .i64],[]⟩,[4],[],[],6,[9],⟨[.int .i64],[]⟩,[]⟩),(31,⟨[4,9],⟨[.int .i64, .int .i64],[]⟩,[],[],[],8,[9],⟨[.int .i64],[]⟩,[]⟩)],[(5,⟨[3,4,5],⟨[.str, .int .i64, .int .i64],[]⟩,[0,6],[],[],0,[],⟨[],[]⟩,[]⟩),(14,⟨[3,4,5],⟨[.str, .int .i64, .int .i64],[]⟩,[],[],[],0,[],⟨[],[]⟩,[]⟩),(19,⟨[4,5],⟨[.int .i64, .int .i64],[]⟩,[3,7],[],[],0,[],⟨[],[]⟩,[]⟩),(25,⟨[4,8],⟨[.int .i64, .int .i64],[]⟩,[],[],[],0,[],⟨[],[]⟩,[]⟩),(26,⟨[4],⟨[.int .i64],[]⟩,[3],[],[],0,[],⟨[],[]⟩,[]⟩)],[]⟩) (exS:=⟨[.int .i64],[]⟩) Tryz.f264 (memC QG (memC qo zw)) (by kernel_rfl) (by kernel_rfl) fun x=>by kernel_rfl
theorem znG:zm Tryz.prog (EY Gs):=
 okC (A:=⟨[PY QH,lY qL,dM qg,VG Qk,QP zB],[],[],0,[],[(9,⟨[6],⟨[.int .i64],[(0, .row 57),(1, .row 57)]⟩,[4,8],[],[0,1],0,[],⟨[],[]⟩,[]⟩)],[]⟩) (exS:=⟨[.optr 0, .int .i64],[(0, .row 57)]⟩) Tryz.f233 (memC zlG (memC zji (memC wX (memC PM (memC QG zw))))) (by kernel_rfl) (by kernel_rfl) fun x=>by kernel_rfl
theorem BV:zm Tryz.prog (iL aj):=
 okC (A:=⟨[],[],[],0,[],[],[]⟩) (exS:=⟨[.bool],[]⟩) Tryz.f225 zw (by kernel_rfl) (by kernel_rfl) fun x=>by kernel_rfl
theorem UM:zm Tryz.prog (LG qJ):=
 okC (A:=⟨[KG qK],[],[],0,[],[],[]⟩) (exS:=⟨[.bool],[]⟩) Tryz.f152 (memC TM zw) (by kernel_rfl) (by kernel_rfl) fun x=>by kernel_rfl
theorem zvY:zm Tryz.prog (oU Ol):=
 okC (A:=⟨[Tw Zm,CB ZB],[],[],0,[(1,⟨[1],⟨[.int .i64],[]⟩,[0,4,5],[0],[],0,[1],⟨[.int .i64],[]⟩,[]⟩)],[],[]⟩) (exS:=⟨[.optr 0, .int .i64],[(0, .row 57)]⟩) Tryz.f290 (memC AB (memC rG zw)) (by kernel_rfl) (by kernel_rfl) fun x=>by kernel_rfl
theorem zjj:zm Tryz.prog (kY Qy):=
 okC (A:=⟨[],[],[],0,[],[],[]⟩) (exS:=⟨[.bool],[]⟩) Tryz.f291 zw (by kernel_rfl) (by kernel_rfl) fun x=>by kernel_rfl
theorem zvZ:zm Tryz.prog (nU pq):=
 okC (A:=⟨[oG qE,nA qA,oU Ol,kY Qy,Tw Zm,CB ZB],[],[],0,[(3,⟨[1],⟨[.int .i64],[(0, .row 57),(1, .row 57)]⟩,[0,4,6],[],[0,1],0,[1],⟨[.int .i64],[(0, .row 57),(1, .row 57)]⟩,[0,1]⟩)],[],[]⟩) (exS:=⟨[.optr 0, .int .i64],[(0, .row 57)]⟩) Tryz.f265 (memC pM (memC gG (memC zvY (memC zjj (memC AB (memC rG zw)))))) (by kernel_rfl) (by kernel_rfl) fun x=>by kernel_rfl
theorem ztq:zm Tryz.prog (nV Lr):=
 okC (A:=⟨[VG Qk,QP zB,LG qJ,oG qE,nU pq],[],[],0,[],[(8,⟨[],⟨[],[(0, .row 57)]⟩,[4,6,7],[],[0],0,[],⟨[],[]⟩,[]⟩)],[]⟩) (exS:=⟨[.optr 0, .int .i64],[(0, .row 57)]⟩) Tryz.f234 (memC PM (memC QG (memC UM (memC pM (memC zvZ zw))))) (by kernel_rfl) (by kernel_rfl) fun x=>by kernel_rfl
theorem ztp:zm Tryz.prog (oV Mr):=
 okC (A:=⟨[],[],[],0,[],[],[]⟩) (exS:=⟨[.int .u8],[]⟩) Tryz.f235 zw (by kernel_rfl) (by kernel_rfl) fun x=>by kernel_rfl
theorem CV:zm Tryz.prog (jL Rl):=
 okC (A:=⟨[nA qA,oG qE,EX jr,NB ZP,Tw Zm,VG Qk,dM qg,JY Rw,EY Gs,iL aj,nV Lr,oV Mr],[],[],0,[],[],[]⟩) (exS:=⟨[.optr 0, .int .i64],[(0, .row 57)]⟩) Tryz.f198 (memC gG (memC pM (memC zpw (memC FH (memC AB (memC PM (memC wX (memC zmr (memC znG (memC BV (memC ztq (memC ztp zw)))))))))))) (by kernel_rfl) (by kernel_rfl) fun x=>by kernel_rfl
theorem zqN:zm Tryz.prog (iW QI):=
 okC (A:=⟨[jL Rl],[(1,[1])],[],0,[],[],[]⟩) (exS:=⟨[.bool],[]⟩) Tryz.f188 (memC CV zw) (by kernel_rfl) (by kernel_rfl) fun x=>by kernel_rfl
theorem zts:zm Tryz.prog (lV Wz):=
 okC (A:=⟨[dW Dp,mV Xz,iW QI],[],[],0,[],[(6,⟨[8],⟨[.bool],[(1, .row 57)]⟩,[1,3,7],[0],[1],0,[],⟨[],[]⟩,[]⟩),(13,⟨[56],⟨[.bool],[(1, .row 57)]⟩,[],[],[1],0,[],⟨[],[]⟩,[]⟩),(21,⟨[90],⟨[.bool],[(1, .row 57)]⟩,[],[],[1],0,[],⟨[],[]⟩,[]⟩),(26,⟨[148],⟨[.bool],[]⟩,[],[1],[],0,[],⟨[],[]⟩,[]⟩)],[]⟩) (exS:=⟨[.bool],[]⟩) Tryz.f151 (memC zqP (memC ztr (memC zqN zw))) (by kernel_rfl) (by kernel_rfl) fun x=>by kernel_rfl
theorem zqM:zm Tryz.prog (jW Sr):=
 okC (A:=⟨[lV Wz,LG qJ],[],[],0,[(4,⟨[3],⟨[.int .i64],[]⟩,[0],[],[],0,[],⟨[],[]⟩,[]⟩)],[(12,⟨[4],⟨[.int .i64],[]⟩,[3],[],[],0,[],⟨[],[]⟩,[]⟩),(14,⟨[],⟨[],[]⟩,[3],[],[],0,[],⟨[],[]⟩,[]⟩)],[]⟩) (exS:=⟨[.int .i64],[]⟩) Tryz.f99 (memC zts (memC UM zw)) (by kernel_rfl) (by kernel_rfl) fun x=>by kernel_rfl
theorem znO(qU:List zh->Option Bool)(hs:zm Tryz.prog (BB qU)):zm Tryz.prog (BB (yG qU)):=
 okC (A:=⟨[BB qU],[],[],0,[(2,⟨[3],⟨[.int .i64],[]⟩,[0],[],[],0,[],⟨[],[]⟩,[]⟩)],[],[]⟩) (exS:=⟨[.bool],[]⟩) Tryz.f101 (memC hs zw) (by kernel_rfl) (by kernel_rfl) fun x=>by kernel_rfl
theorem znK:zm Tryz.prog (BB qU):=
 zm.recE (I:=I) (P:=Tryz.prog) (f:=101) (inS:=⟨[.sl 59],[]⟩) (cst:=[]) (outS:=⟨[.bool],[]⟩) (k:=0) (yG) (by kernel_rfl) (fun S h=>znO S h)
theorem znI:zm Tryz.prog (CY xA):=
 okC (A:=⟨[],[],[],0,[(1,⟨[0],⟨[.sl 59],[]⟩,[2],[],[],0,[0],⟨[.sl 59],[]⟩,[]⟩),(3,⟨[0],⟨[.sl 59],[]⟩,[2],[],[],2,[0],⟨[.sl 59],[]⟩,[]⟩)],[],[]⟩) (exS:=⟨[.sl 59],[]⟩) Tryz.f102 zw (by kernel_rfl) (by kernel_rfl) fun x=>by kernel_rfl
theorem zpB:zm Tryz.prog (CX OA):=
 okC (A:=⟨[],[],[],0,[],[],[]⟩) (exS:=⟨[.bool],[]⟩) Tryz.f103 zw (by kernel_rfl) (by kernel_rfl) fun x=>by kernel_rfl
theorem zpC:zm Tryz.prog (BX NA):=
 okC (A:=⟨[bW IA,Q8 Z4,jW Sr,BB qU,CY xA,CX OA],[],[],0,[(6,⟨[5],⟨[.int .i64],[]⟩,[1],[],[],0,[],⟨[],[]⟩,[]⟩)],[],[]⟩) (exS:=⟨[.bool],[]⟩) Tryz.f60 (memC zqQ (memC mM (memC zqM (memC znK (memC znI (memC zpB zw)))))) (by kernel_rfl) (by kernel_rfl) fun x=>by kernel_rfl
theorem zqR:zm Tryz.prog (aW kv):=
 okC (A:=⟨[XW EA,BX NA],[],[],0,[],[],[]⟩) (exS:=⟨[.int .i64],[]⟩) Tryz.f30 (memC zqT (memC zpC zw)) (by kernel_rfl) (by kernel_rfl) fun x=>by kernel_rfl
theorem XX:zm Tryz.prog (fM Bp):=
 okC (A:=⟨[],[],[],0,[],[],[]⟩) (exS:=⟨[.bool],[]⟩) Tryz.f107 zw (by kernel_rfl) (by kernel_rfl) fun x=>by kernel_rfl
theorem EH:zm Tryz.prog (FB qh):=
 okC (A:=⟨[fM Bp],[],[],0,[],[],[]⟩) (exS:=⟨[.bool],[]⟩) Tryz.f65 (memC XX zw) (by kernel_rfl) (by kernel_rfl) fun x=>by kernel_rfl
theorem zlV(ZR:zg->Option Bool)(hs:zm Tryz.prog (VB ZR)):zm Tryz.prog (VB (GH ZR)):=
 okC (A:=⟨[aW kv,FB qh,VB ZR],[],[],0,[(13,⟨[3],⟨[.int .i64],[]⟩,[],[],[],1,[],⟨[],[]⟩,[]⟩)],[(10,⟨[55],⟨[.bool],[]⟩,[1],[0],[],0,[],⟨[],[]⟩,[]⟩)],[]⟩) (exS:=⟨[.bool],[]⟩) Tryz.f64 (memC zqR (memC EH (memC hs zw))) (by kernel_rfl) (by kernel_rfl) fun x=>by kernel_rfl
theorem zlJ:zm Tryz.prog (VB ZR):=
 zm.recE (I:=I) (P:=Tryz.prog) (f:=64) (inS:=⟨[.val 27],[]⟩) (cst:=[]) (outS:=⟨[.bool],[]⟩) (k:=0) (GH) (by kernel_rfl) (fun S h=>zlV S h)
theorem NH:zm Tryz.prog (QT ZF):=
 okC (A:=⟨[Aw qD,bA ll,VB ZR],[],[],0,[],[],[]⟩) (exS:=⟨[.bool],[]⟩) Tryz.f34 (memC xV (memC ztz (memC zlJ zw))) (by kernel_rfl) (by kernel_rfl) fun x=>by kernel_rfl
theorem zmB(Zy:zg->Option (List z8))(hs:zm Tryz.prog (Qh Zy)):zm Tryz.prog (Qh (pG Zy)):=
 okC (A:=⟨[Qh Zy],[(2,[2])],[],0,[(5,⟨[3,4],⟨[.own 1312, .int .i64],[(1312, .sl 24)]⟩,[1,2],[0],[],0,[3],⟨[.own 1312],[(1312, .sl 24)]⟩,[1312]⟩)],[],[]⟩) (exS:=⟨[.sl 24],[]⟩) Tryz.f35 (memC hs zw) (by kernel_rfl) (by kernel_rfl) fun x=>by kernel_rfl
theorem xM:zm Tryz.prog (Qh Zy):=
 zm.recE (I:=I) (P:=Tryz.prog) (f:=35) (inS:=⟨[.val 27],[]⟩) (cst:=[]) (outS:=⟨[.sl 24],[]⟩) (k:=0) (pG) (by kernel_rfl) (fun S h=>zmB S h)
theorem zqV:zm Tryz.prog (VW AA):=
 okC (A:=⟨[QT ZF,Qh Zy],[],[],0,[],[],[]⟩) (exS:=⟨[.sl 24, .int .i64],[]⟩) Tryz.f11 (memC NH (memC xM zw)) (by kernel_rfl) (by kernel_rfl) fun x=>by kernel_rfl
theorem zhI:zm Tryz.prog (tY slices_Index_string):=
 okC (A:=⟨[],[],[],0,[(2,⟨[8],⟨[.int .i64],[]⟩,[0,1,7],[],[],0,[],⟨[],[]⟩,[]⟩)],[],[]⟩) (exS:=⟨[.int .i64],[]⟩) Tryz.f175 zw (by kernel_rfl) (by kernel_rfl) fun x=>by kernel_rfl
theorem zgo:zm Tryz.prog (AZ slices_Contains_string):=
 okC (A:=⟨[tY slices_Index_string],[],[],0,[],[],[]⟩) (exS:=⟨[.bool],[]⟩) Tryz.f134 (memC zhI zw) (by kernel_rfl) (by kernel_rfl) fun x=>by kernel_rfl
theorem zqE:zm Tryz.prog (sW Wv):=
 okC (A:=⟨[AZ slices_Contains_string,NG Qj,qc strings_IndexByte],[(1,[0])],[],0,[],[],[]⟩) (exS:=⟨[.bool],[]⟩) Tryz.f92 (memC zgo (memC WM (memC qC zw))) (by kernel_rfl) (by kernel_rfl) fun x=>by kernel_rfl
theorem dX:zm Tryz.prog (jM Gp):=
 okC (A:=⟨[],[],[],0,[(2,⟨[7],⟨[.int .i64],[]⟩,[5,6],[],[],0,[],⟨[],[]⟩,[]⟩)],[],[]⟩) (exS:=⟨[.int .i64],[]⟩) Tryz.f113 zw (by kernel_rfl) (by kernel_rfl) fun x=>by kernel_rfl
theorem zqF:zm Tryz.prog (rW Ur):=
 okC (A:=⟨[jM Gp],[(1,[1])],[],0,[],[],[]⟩) (exS:=⟨[.int .i64],[]⟩) Tryz.f121 (memC dX zw) (by kernel_rfl) (by kernel_rfl) fun x=>by kernel_rfl
theorem zth:zm Tryz.prog (XV Sv):=
 okC (A:=⟨[TA QV,sW Wv,rW Ur],[],[],0,[(4,⟨[23],⟨[.int .i64],[]⟩,[21,22],[],[],0,[],⟨[],[]⟩,[]⟩)],[(17,⟨[57],⟨[.bool],[]⟩,[4,23],[1],[],0,[],⟨[],[]⟩,[]⟩),(19,⟨[23],⟨[.int .i64],[]⟩,[],[],[],0,[],⟨[],[]⟩,[]⟩)],[]⟩) (exS:=⟨[.bool],[]⟩) Tryz.f80 (memC tF (memC zqE (memC zqF zw))) (by kernel_rfl) (by kernel_rfl) fun x=>by kernel_rfl
theorem ztg:zm Tryz.prog (YV nz):=
 okC (A:=⟨[],[],[],0,[],[],[]⟩) (exS:=⟨[.bool],[]⟩) Tryz.f81 zw (by kernel_rfl) (by kernel_rfl) fun x=>by kernel_rfl
theorem zvK:zm Tryz.prog (iU Oz):=
 okC (A:=⟨[TA QV,XV Sv,YV nz],[],[],0,[],[],[]⟩) (exS:=⟨[.bool],[]⟩) Tryz.f46 (memC tF (memC zth (memC ztg zw))) (by kernel_rfl) (by kernel_rfl) fun x=>by kernel_rfl
theorem zjh:zm Tryz.prog (mY UB):=
 okC (A:=⟨[iU Oz],[],[],0,[],[],[]⟩) (exS:=⟨[.bool],[]⟩) Tryz.f45 (memC zvK zw) (by kernel_rfl) (by kernel_rfl) fun x=>by kernel_rfl
theorem zgO:zm Tryz.prog (EZ Q6):=
 okC (A:=⟨[mY UB],[],[],0,[(2,⟨[8],⟨[.int .i64],[]⟩,[0,1,7],[],[],0,[],⟨[],[]⟩,[]⟩)],[],[]⟩) (exS:=⟨[.int .i64],[]⟩) Tryz.f79 (memC zjh zw) (by kernel_rfl) (by kernel_rfl) fun x=>by kernel_rfl
theorem zfv:zm Tryz.prog (KZ qi):=
 okC (A:=⟨[EZ Q6],[],[],0,[],[],[]⟩) (exS:=⟨[.bool],[]⟩) Tryz.f44 (memC zgO zw) (by kernel_rfl) (by kernel_rfl) fun x=>by kernel_rfl
theorem FN:zm Tryz.prog (JH qy):=
 okC (A:=⟨[KZ qi,TA QV],[],[],0,[],[],[]⟩) (exS:=⟨[.int .i64],[]⟩) Tryz.f16 (memC zfv (memC tF zw)) (by kernel_rfl) (by kernel_rfl) fun x=>by kernel_rfl
theorem rV:zm Tryz.prog (LM Ir):=
 okC (A:=⟨[JH qy,LH ZH],[],[],0,[],[],[]⟩) (exS:=⟨[.int .i64],[]⟩) Tryz.f36 (memC FN (memC JN zw)) (by kernel_rfl) (by kernel_rfl) fun x=>by kernel_rfl
theorem zpq:zm Tryz.prog (KX yF):=
 okC (A:=⟨[],[],[],2,[],[],[]⟩) (exS:=⟨[.bool],[(0, .row 3)]⟩) Tryz.f38 zw (by kernel_rfl) (by kernel_rfl) fun x=>by kernel_rfl
theorem zt8(jl:(zg×Int)×Int×List Bool->Option (Bool×Int))(hs:zm Tryz.prog (WA jl)):zm Tryz.prog (WA (vF jl)):=
 okC (A:=⟨[KX yF,WA jl],[],[],2,[(14,⟨[7,8,45],⟨[.bool, .bool, .int .i64],[(0, .row 3)]⟩,[1,2,3,6,43,44],[2],[0],1,[7,8],⟨[.bool, .bool],[(0, .row 3)]⟩,[0]⟩)],[],[]⟩) (exS:=⟨[.bool],[(0, .row 3)]⟩) Tryz.f37 (memC zpq (memC hs zw)) (by kernel_rfl) (by kernel_rfl) fun x=>by kernel_rfl
theorem zte:zm Tryz.prog (WA jl):=
 zm.recE (I:=I) (P:=Tryz.prog) (f:=37) (inS:=⟨[.val 27, .int .i64, .clo 38 [0,1]],[(0, .row 3),(1, .row 30)]⟩) (cst:=[1]) (outS:=⟨[.bool],[(0, .row 3)]⟩) (k:=0) (vF) (by kernel_rfl) (fun S h=>zt8 S h)
theorem ztd:zm Tryz.prog (aV oz):=
 okC (A:=⟨[LM Ir,Cw QQ,WA jl],[],[],0,[],[],[]⟩) (exS:=⟨[.bool, .int .i64],[]⟩) Tryz.f12 (memC rV (memC IW (memC zte zw))) (by kernel_rfl) (by kernel_rfl) fun x=>by kernel_rfl
theorem zpG:zm Tryz.prog (nX Ew):=
 okC (A:=⟨[KG qK],[],[],0,[(4,⟨[3],⟨[.int .i64],[]⟩,[0],[],[],0,[],⟨[],[]⟩,[]⟩)],[],[]⟩) (exS:=⟨[.bool],[]⟩) Tryz.f154 (memC TM zw) (by kernel_rfl) (by kernel_rfl) fun x=>by kernel_rfl
theorem zxq:zm Tryz.prog (AU wu):=
 okC (A:=⟨[],[],[],0,[],[],[]⟩) (exS:=⟨[.bool],[]⟩) Tryz.f155 zw (by kernel_rfl) (by kernel_rfl) fun x=>by kernel_rfl
theorem AV:zm Tryz.prog (gL jo):=
 okC (A:=⟨[FB qh,fM Bp,nX Ew,AU wu],[],[],0,[(4,⟨[4],⟨[.int .i64],[]⟩,[1],[0],[],0,[],⟨[],[]⟩,[]⟩)],[(5,⟨[4],⟨[.int .i64],[]⟩,[],[],[],0,[],⟨[],[]⟩,[]⟩)],[]⟩) (exS:=⟨[.bool, .bool],[]⟩) Tryz.f108 (memC EH (memC XX (memC zpG (memC zxq zw)))) (by kernel_rfl) (by kernel_rfl) fun x=>by kernel_rfl
theorem WX:zm Tryz.prog (EM QK):=
 okC (A:=⟨[FB qh,gL jo],[],[],0,[],[],[]⟩) (exS:=⟨[.bool],[]⟩) Tryz.f66 (memC EH (memC AV zw)) (by kernel_rfl) (by kernel_rfl) fun x=>by kernel_rfl
theorem lM:zm Tryz.prog (lG Q4):=
 okC (A:=⟨[FB qh,EM QK],[],[],0,[(8,⟨[3],⟨[.int .i64],[]⟩,[1],[0],[],0,[],⟨[],[]⟩,[]⟩)],[],[]⟩) (exS:=⟨[.bool],[]⟩) Tryz.f39 (memC EH (memC WX zw)) (by kernel_rfl) (by kernel_rfl) fun x=>by kernel_rfl
theorem zuj(jk:zg×VEnv×List Bool->Option Bool)(hs:zm Tryz.prog (aA jk)):zm Tryz.prog (aA (CG jk)):=
 okC (A:=⟨[aA jk,Qh Zy],[],[],0,[(16,⟨[2,7,8],⟨[.sl 4, .bool, .int .i64],[]⟩,[3,4,6],[0,1],[],1,[7],⟨[.bool],[]⟩,[]⟩)],[(17,⟨[2,7,8],⟨[.sl 4, .bool, .int .i64],[]⟩,[],[],[],0,[],⟨[],[]⟩,[]⟩)],[]⟩) (exS:=⟨[.bool],[]⟩) Tryz.f40 (memC hs (memC xM zw)) (by kernel_rfl) (by kernel_rfl) fun x=>by kernel_rfl
theorem ztB:zm Tryz.prog (aA jk):=
 zm.recE (I:=I) (P:=Tryz.prog) (f:=40) (inS:=⟨[.val 27, .val 29, .sl 4],[]⟩) (cst:=[]) (outS:=⟨[.bool],[]⟩) (k:=0) (CG) (by kernel_rfl) (fun S h=>zuj S h)
theorem zqX:zm Tryz.prog (PW xz):=
 okC (A:=⟨[lG Q4,QT ZF,Qh Zy,aA jk],[],[],0,[],[],[]⟩) (exS:=⟨[.bool, .int .i64],[]⟩) Tryz.f13 (memC lM (memC NH (memC xM (memC ztB zw)))) (by kernel_rfl) (by kernel_rfl) fun x=>by kernel_rfl
theorem DW:zm Tryz.prog (IM Al):=
 okC (A:=⟨[ZM strings_HasPrefix],[],[],0,[],[],[]⟩) (exS:=⟨[.int .i64],[]⟩) Tryz.f111 (memC ZY zw) (by kernel_rfl) (by kernel_rfl) fun x=>by kernel_rfl
theorem vM:zm Tryz.prog (xG Z9):=
 okC (A:=⟨[Bw qI,iM Vv,BU lq],[(2,[2]),(3,[1]),(5,[1])],[],1,[],[],[]⟩) (exS:=⟨[.own 1],[(1, .sl 5)]⟩) Tryz.f159 (memC yA (memC bX (memC zxp zw))) (by kernel_rfl) (by kernel_rfl) fun x=>by kernel_rfl
theorem zqH:zm Tryz.prog (oW rz):=
 okC (A:=⟨[BG il,Bw qI,xG Z9],[(6,[2])],[],0,[(2,⟨[0,11],⟨[.own 1314, .int .i64],[(1314, .sl 5)]⟩,[1,2,6,10],[],[],0,[0],⟨[.own 1314],[(1314, .sl 5)]⟩,[1314]⟩)],[(8,⟨[0,11],⟨[.own 1416, .int .i64],[(1416, .sl 5)]⟩,[],[],[],0,[],⟨[],[]⟩,[]⟩)],[]⟩) (exS:=⟨[.own 0],[(0, .sl 5)]⟩) Tryz.f110 (memC xL (memC yA (memC vM zw))) (by kernel_rfl) (by kernel_rfl) fun x=>by kernel_rfl
theorem FV:zm Tryz.prog (kL uq):=
 okC (A:=⟨[qc strings_IndexByte,IM Al,oW rz],[],[],0,[],[],[]⟩) (exS:=⟨[.str, .int .i64],[]⟩) Tryz.f67 (memC qC (memC DW (memC zqH zw))) (by kernel_rfl) (by kernel_rfl) fun x=>by kernel_rfl
theorem znE:zm Tryz.prog (GY Z8):=
 okC (A:=⟨[],[],[],2,[],[],[]⟩) (exS:=⟨[],[(0, .row 3),(1, .sl 5)]⟩) Tryz.f114 zw (by kernel_rfl) (by kernel_rfl) fun x=>by kernel_rfl
theorem zqG:zm Tryz.prog (pW uz):=
 okC (A:=⟨[jM Gp,GY Z8],[(1,[1]),(7,[200000])],[],0,[(12,⟨[9,26],⟨[.int .i64, .int .i64],[(1, .sl 5),(2, .row 3)]⟩,[0,6,7,8],[],[1,2],0,[],⟨[],[(1, .sl 5),(2, .row 3)]⟩,[1,2]⟩),(23,⟨[0],⟨[.int .i64],[(1, .sl 5),(2, .row 3)]⟩,[6,7,8],[],[1,2],2,[],⟨[],[(1, .sl 5),(2, .row 3)]⟩,[1,2]⟩)],[(7,⟨[0],⟨[.int .i64],[]⟩,[5],[],[],0,[],⟨[],[]⟩,[]⟩),(17,⟨[9],⟨[.int .i64],[(1, .sl 5),(2, .row 3)]⟩,[10,26],[],[1,2],0,[],⟨[],[]⟩,[]⟩),(20,⟨[9,26],⟨[.int .i64, .int .i64],[(1, .sl 5),(2, .row 3)]⟩,[],[],[1,2],0,[],⟨[],[]⟩,[]⟩),(27,⟨[],⟨[],[(1, .sl 5),(2, .row 3)]⟩,[6,7],[],[1,2],0,[],⟨[],[]⟩,[]⟩)],[]⟩) (exS:=⟨[.str, .int .i64],[]⟩) Tryz.f69 (memC dX (memC znE zw)) (by kernel_rfl) (by kernel_rfl) fun x=>by kernel_rfl
end Go.Lv.VT
end
