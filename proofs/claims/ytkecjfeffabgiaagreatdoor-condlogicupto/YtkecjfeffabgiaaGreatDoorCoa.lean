/- Contracts. -/
import Derived.Test.YtkecjfeffabgiaaGreatDoorTx
import Derived.Test.YtkecjfeffabgiaaGreatDoorIp
import Derived.Test.YtkecjfeffabgiaaGreatDoorLf
import Derived.Test.YtkecjfeffabgiaaGreatDoorPa
noncomputable section
set_option linter.unusedSimpArgs false
set_option linter.unusedVariables false
namespace Go.Lv.VT
set_option maxRecDepth 100000
open Go.Proofs
theorem okC{con:Con I}{A:Env0 I}{exS:StSh}(f:Go.Func)(hS: ∀c∈A.S,zm Tryz.prog c)(hf:Tryz.prog.funcs[con.f]? =some f)(h:chk con A f=true)(he: ∀x,evF2 A T FK f.ntmps (rsl f) (body f) con exS x=con.F x):zm Tryz.prog con:=
 okC0 mixed ipOK tok rfl rfl hS hf h he
def Rp(F:zh×Int->Option Int):Con I:=⟨31,⟨[.val 27, .int .i64],[]⟩,[],⟨[.int .i64],[]⟩,0,F⟩
def Xu(F:List ze×Int->Option Int):Con I:=⟨104,⟨[.sl 59, .int .i64],[]⟩,[],⟨[.int .i64],[]⟩,0,F⟩
def kz(F:Int->Option Int):Con I:=⟨153,⟨[.int .u8],[]⟩,[],⟨[.int .u8],[]⟩,0,F⟩
def ol(F:List ze->Option Int):Con I:=⟨105,⟨[.sl 59],[]⟩,[],⟨[.int .i64],[]⟩,0,F⟩
def wN(F:List zB->Option Bool):Con I:=⟨61,⟨[.sl 24],[]⟩,[],⟨[.bool],[]⟩,0,F⟩
def Vu(F:zh->Option Bool):Con I:=⟨32,⟨[.val 27],[]⟩,[],⟨[.bool],[]⟩,0,F⟩
def uN(F:zh->Option Bool):Con I:=⟨9,⟨[.val 27],[]⟩,[],⟨[.bool],[]⟩,0,F⟩
def cz(F:Int->Option Int):Con I:=⟨58,⟨[.int .u8],[]⟩,[],⟨[.int .u8],[]⟩,0,F⟩
def Pp(F:List ze×Int->Option zA):Con I:=⟨85,⟨[.sl 59, .int .u8],[]⟩,[],⟨[.val 111],[]⟩,0,F⟩
def uj(F:List ze->Option Int):Con I:=⟨50,⟨[.sl 59],[]⟩,[],⟨[.int .i64],[]⟩,0,F⟩
def lM(F:List ze->Option (Int×Int)):Con I:=⟨82,⟨[.sl 59],[]⟩,[],⟨[.int .i64, .int .i64],[]⟩,0,F⟩
def xu(F:List ze×List zf->Option (List zf)):Con I:=⟨164,⟨[.own 0, .sl 59],[(0, .sl 57)]⟩,[],⟨[.own 1],[(1, .sl 57)]⟩,1,F⟩
def UN(F:List ze->Option (List zf)):Con I:=⟨164,⟨[.nilv, .sl 59],[]⟩,[],⟨[.own 0],[(0, .sl 57)]⟩,1,F⟩
def IM(F:List ze->Option (List zf×Int)):Con I:=⟨122,⟨[.sl 59],[]⟩,[],⟨[.sl 57, .int .i64],[]⟩,0,F⟩
def ZV(F:Str×Int->Option Int):Con I:=⟨109,⟨[.str, .int .u8],[]⟩,[],⟨[.int .i64],[]⟩,0,F⟩
def aH(F:Str×Str->Option Bool):Con I:=⟨173,⟨[.str, .str],[]⟩,[],⟨[.bool],[]⟩,0,F⟩
def Zl(F:Str×Str->Option Bool):Con I:=⟨130,⟨[.str, .str],[]⟩,[],⟨[.bool],[]⟩,0,F⟩
def Gq(F:Str->Option Str):Con I:=⟨91,⟨[.str],[]⟩,[],⟨[.str],[]⟩,0,F⟩
def pM(F:Str->Option Bool):Con I:=⟨123,⟨[.str],[]⟩,[],⟨[.bool],[]⟩,0,F⟩
def mQ(F:Str×Str->Option Str):Con I:=⟨266,⟨[.str, .str],[]⟩,[],⟨[.str],[]⟩,0,F⟩
def JQ(F:Str×Str->Option Str):Con I:=⟨236,⟨[.str, .str],[]⟩,[],⟨[.str],[]⟩,0,F⟩
def Tp(F:Int->Option Bool):Con I:=⟨158,⟨[.int .u8],[]⟩,[],⟨[.bool],[]⟩,0,F⟩
def VG(F:Str->Option Bool):Con I:=⟨199,⟨[.str],[]⟩,[],⟨[.bool],[]⟩,0,F⟩
def BG(F:Int->Option Bool):Con I:=⟨190,⟨[.int .u8],[]⟩,[],⟨[.bool],[]⟩,0,F⟩
def Kz(F:Int->Option Bool):Con I:=⟨157,⟨[.int .u8],[]⟩,[],⟨[.bool],[]⟩,0,F⟩
def EQ(F:Str×Str->Option Bool):Con I:=⟨200,⟨[.str, .str],[]⟩,[],⟨[.bool],[]⟩,0,F⟩
def KM(F:zf->Option Bool):Con I:=⟨169,⟨[.val 57],[]⟩,[],⟨[.bool],[]⟩,0,F⟩
def mO(F:(Int×Int)×List zf->Option Bool):Con I:=⟨201,⟨[.int .i64, .int .u8, .optr 0],[(0, .row 62)]⟩,[0],⟨[.bool],[]⟩,0,F⟩
def Hq(F:Str×Str->Option Bool):Con I:=⟨131,⟨[.str, .str],[]⟩,[],⟨[.bool],[]⟩,0,F⟩
def iF(F:List zf->Option Int):Con I:=⟨170,⟨[.sl 57],[]⟩,[],⟨[.int .i64],[]⟩,0,F⟩
def kF(F:List zf->Option Int):Con I:=⟨124,⟨[.sl 57],[]⟩,[],⟨[.int .i64],[]⟩,0,F⟩
def Pj(F:ze×Int->Option Bool):Con I:=⟨128,⟨[.val 59, .int .u8],[]⟩,[],⟨[.bool],[]⟩,0,F⟩
def bP(F:ze->Option Bool):Con I:=⟨171,⟨[.val 59],[]⟩,[],⟨[.bool],[]⟩,0,F⟩
def nQ(F:List ze->Option Int):Con I:=⟨172,⟨[.sl 59, .clo 171 []],[]⟩,[],⟨[.int .i64],[]⟩,0,F⟩
def uQ(F:List ze->Option Bool):Con I:=⟨126,⟨[.sl 59, .clo 171 []],[]⟩,[],⟨[.bool],[]⟩,0,F⟩
def Qe(F:List ze->Option Bool):Con I:=⟨125,⟨[.sl 59],[]⟩,[],⟨[.bool],[]⟩,0,F⟩
def XE(F:ze->Option Bool):Con I:=⟨129,⟨[.val 59],[]⟩,[],⟨[.bool],[]⟩,0,F⟩
def nO(F:ze->Option Bool):Con I:=⟨127,⟨[.val 59],[]⟩,[],⟨[.bool],[]⟩,0,F⟩
def vQ(F:List ze->Option Int):Con I:=⟨172,⟨[.sl 59, .clo 127 []],[]⟩,[],⟨[.int .i64],[]⟩,0,F⟩
def yQ(F:List ze->Option Bool):Con I:=⟨126,⟨[.sl 59, .clo 127 []],[]⟩,[],⟨[.bool],[]⟩,0,F⟩
def Nz(F:zB->Option Int):Con I:=⟨83,⟨[.val 24],[]⟩,[],⟨[.int .i64],[]⟩,0,F⟩
def Ju(F:zh->Option Bool):Con I:=⟨47,⟨[.val 27],[]⟩,[],⟨[.bool],[]⟩,0,F⟩
def YE(F:zh->Option Bool):Con I:=⟨71,⟨[.val 27],[]⟩,[],⟨[.bool],[]⟩,0,F⟩
def Iu(F:zh×Int->Option ((Int×Bool)×Int)):Con I:=⟨48,⟨[.val 27, .optr 0],[(0, .row 3)]⟩,[],⟨[.int .i64, .bool],[(0, .row 3)]⟩,0,F⟩
def VA(F:zh->Option Int):Con I:=⟨18,⟨[.val 27],[]⟩,[],⟨[.int .i64],[]⟩,0,F⟩
def VN(F:Int×List ze->Option Bool):Con I:=⟨106,⟨[.int .i64, .optr 0],[(0, .row 22)]⟩,[0],⟨[.bool],[]⟩,0,F⟩
def LQ(F:List ze->Option (List ze)):Con I:=⟨133,⟨[.sl 59],[]⟩,[],⟨[.own 0],[(0, .sl 59)]⟩,1,F⟩
def Np(F:List ze->Option (List ze)):Con I:=⟨88,⟨[.sl 59],[]⟩,[],⟨[.sl 59],[]⟩,0,F⟩
def VE(F:List ze->Option (List ze×Int)):Con I:=⟨62,⟨[.sl 59],[]⟩,[],⟨[.sl 59, .int .i64],[]⟩,0,F⟩
def yl(F:zh->Option (List zB)):Con I:=⟨33,⟨[.val 27],[]⟩,[],⟨[.sl 24],[]⟩,0,F⟩
def vM(F:zh->Option (List zB×Int)):Con I:=⟨10,⟨[.val 27],[]⟩,[],⟨[.sl 24, .int .i64],[]⟩,0,F⟩
def Wu(F:zh->Option Int):Con I:=⟨63,⟨[.val 27],[]⟩,[],⟨[.int .i64],[]⟩,0,F⟩
def bz(F:Int->Option Int):Con I:=⟨149,⟨[.int .u8],[]⟩,[],⟨[.int .u8],[]⟩,0,F⟩
def wF(F:Str->Option Str):Con I:=⟨97,⟨[.str],[]⟩,[],⟨[.str],[]⟩,0,F⟩
def vN(F:Str->Option Bool):Con I:=⟨59,⟨[.str],[]⟩,[],⟨[.bool],[]⟩,0,F⟩
def Mq(F:List ze->Option (List zf)):Con I:=⟨100,⟨[.sl 59],[]⟩,[],⟨[.sl 57],[]⟩,0,F⟩
def Jv(F:List ze×Int->Option Bool):Con I:=⟨150,⟨[.sl 59, .int .u8],[]⟩,[],⟨[.bool],[]⟩,0,F⟩
def yN(F:List ze->Option Int):Con I:=⟨98,⟨[.sl 59],[]⟩,[],⟨[.int .i64],[]⟩,0,F⟩
def AO(F:Str->Option Bool):Con I:=⟨186,⟨[.str],[]⟩,[],⟨[.bool],[]⟩,0,F⟩
def QK(F:Int->Option Bool):Con I:=⟨117,⟨[.int .u8],[]⟩,[],⟨[.bool],[]⟩,0,F⟩
def fM(F:Str->Option Bool):Con I:=⟨187,⟨[.str],[]⟩,[],⟨[.bool],[]⟩,0,F⟩
def wu(F:Int->Option Bool):Con I:=⟨226,⟨[.int .u8],[]⟩,[],⟨[.bool],[]⟩,0,F⟩
def oh(F:Str×Int->Option Int):Con I:=⟨261,⟨[.str, .int .i64],[]⟩,[],⟨[.int .u8],[]⟩,0,F⟩
def nz(F:Str×Int->Option Int):Con I:=⟨227,⟨[.str, .int .i64],[]⟩,[],⟨[.int .i64],[]⟩,0,F⟩
def gF(F:Unit->Option Str):Con I:=⟨286,⟨[],[]⟩,[],⟨[.str],[]⟩,0,F⟩
def EM(F:Int->Option Int):Con I:=⟨287,⟨[.int .u8],[]⟩,[],⟨[.int .i64],[]⟩,0,F⟩
def jM(F:Int->Option Str):Con I:=⟨288,⟨[.int .i64],[]⟩,[],⟨[.str],[]⟩,0,F⟩
def Gv(F:Str×Int->Option (Str×Int)):Con I:=⟨262,⟨[.str, .int .i64],[]⟩,[],⟨[.str, .int .i64],[]⟩,0,F⟩
def fO(F:Str×Int->Option (zf×Int)):Con I:=⟨228,⟨[.str, .int .i64],[]⟩,[],⟨[.val 57, .int .i64],[]⟩,0,F⟩
def fG(F:Int->Option Bool):Con I:=⟨165,⟨[.int .u8],[]⟩,[],⟨[.bool],[]⟩,0,F⟩
def TG(F:Int->Option Bool):Con I:=⟨116,⟨[.int .u8],[]⟩,[],⟨[.bool],[]⟩,0,F⟩
def Nq(F:Str×Int->Option Bool):Con I:=⟨229,⟨[.str, .int .i64],[]⟩,[],⟨[.bool],[]⟩,0,F⟩
def az(F:Str×Int->Option (Str×Int)):Con I:=⟨230,⟨[.str, .int .i64],[]⟩,[],⟨[.str, .int .i64],[]⟩,0,F⟩
def SG(F:Str×Int->Option Bool):Con I:=⟨231,⟨[.str, .int .i64],[]⟩,[],⟨[.bool],[]⟩,0,F⟩
def mP(F:Str×Int->Option Bool):Con I:=⟨232,⟨[.str, .int .i64],[]⟩,[],⟨[.bool],[]⟩,0,F⟩
def iO(F:Str×Int->Option Int):Con I:=⟨289,⟨[.str, .int .i64],[]⟩,[],⟨[.int .i64],[]⟩,0,F⟩
def sP(F:Str×Int->Option (Int×Bool)):Con I:=⟨263,⟨[.str, .int .i64],[]⟩,[],⟨[.int .i64, .bool],[]⟩,0,F⟩
def TQ(F:Str->Option Int):Con I:=⟨264,⟨[.str],[]⟩,[],⟨[.int .i64],[]⟩,0,F⟩
def fP(F:Str×Int->Option (zf×Int)):Con I:=⟨233,⟨[.str, .int .i64],[]⟩,[],⟨[.val 57, .int .i64],[]⟩,0,F⟩
def xL(F:Str×Int×Str->Option Bool):Con I:=⟨225,⟨[.str, .int .i64, .str],[]⟩,[],⟨[.bool],[]⟩,0,F⟩
def yF(F:Str×Str->Option Bool):Con I:=⟨152,⟨[.str, .str],[]⟩,[],⟨[.bool],[]⟩,0,F⟩
def yL(F:Str×Int->Option (zf×Int)):Con I:=⟨290,⟨[.str, .int .i64],[]⟩,[],⟨[.val 57, .int .i64],[]⟩,0,F⟩
def SQ(F:Int->Option Bool):Con I:=⟨291,⟨[.int .u8],[]⟩,[],⟨[.bool],[]⟩,0,F⟩
def wL(F:Str×Int->Option (zf×Int)):Con I:=⟨265,⟨[.str, .int .i64],[]⟩,[],⟨[.val 57, .int .i64],[]⟩,0,F⟩
def gM(F:Str×Int->Option (zf×Int)):Con I:=⟨234,⟨[.str, .int .i64],[]⟩,[],⟨[.val 57, .int .i64],[]⟩,0,F⟩
def iM(F:Int->Option Int):Con I:=⟨235,⟨[.int .u8],[]⟩,[],⟨[.int .u8],[]⟩,0,F⟩
def BM(F:Str×Int->Option (zf×Int)):Con I:=⟨198,⟨[.str, .int .i64],[]⟩,[],⟨[.val 57, .int .i64],[]⟩,0,F⟩
def BO(F:Int->Option Bool):Con I:=⟨188,⟨[.int .u8],[]⟩,[],⟨[.bool],[]⟩,0,F⟩
def dM(F:zf->Option Bool):Con I:=⟨151,⟨[.val 57],[]⟩,[],⟨[.bool],[]⟩,0,F⟩
def TN(F:List zf->Option Int):Con I:=⟨99,⟨[.sl 57],[]⟩,[],⟨[.int .i64],[]⟩,0,F⟩
def Fv(F:List ze->Option Bool):Con I:=⟨101,⟨[.sl 59],[]⟩,[],⟨[.bool],[]⟩,0,F⟩
def eP(F:List ze->Option (List ze)):Con I:=⟨102,⟨[.sl 59],[]⟩,[],⟨[.sl 59],[]⟩,0,F⟩
def eO(F:Str->Option Bool):Con I:=⟨103,⟨[.str],[]⟩,[],⟨[.bool],[]⟩,0,F⟩
def dO(F:Str×List ze->Option Bool):Con I:=⟨60,⟨[.str, .sl 59],[]⟩,[],⟨[.bool],[]⟩,0,F⟩
def xN(F:zB->Option Int):Con I:=⟨30,⟨[.val 24],[]⟩,[],⟨[.int .i64],[]⟩,0,F⟩
def tN(F:zB->Option Bool):Con I:=⟨107,⟨[.val 24],[]⟩,[],⟨[.bool],[]⟩,0,F⟩
def cO(F:zh->Option Bool):Con I:=⟨65,⟨[.val 27],[]⟩,[],⟨[.bool],[]⟩,0,F⟩
def Ov(F:zh->Option Bool):Con I:=⟨64,⟨[.val 27],[]⟩,[],⟨[.bool],[]⟩,0,F⟩
def FQ(F:zh->Option Bool):Con I:=⟨34,⟨[.val 27],[]⟩,[],⟨[.bool],[]⟩,0,F⟩
def YQ(F:List Str×Str->Option Int):Con I:=⟨175,⟨[.sl 9, .str],[]⟩,[],⟨[.int .i64],[]⟩,0,F⟩
def dQ(F:List Str×Str->Option Bool):Con I:=⟨134,⟨[.sl 9, .str],[]⟩,[],⟨[.bool],[]⟩,0,F⟩
def GG(F:Str->Option Bool):Con I:=⟨92,⟨[.str],[]⟩,[],⟨[.bool],[]⟩,0,F⟩
def CG(F:List Int->Option Int):Con I:=⟨113,⟨[.sl 2],[]⟩,[],⟨[.int .i64],[]⟩,0,F⟩
def EG(F:Int->Option Int):Con I:=⟨121,⟨[.int .i64],[]⟩,[],⟨[.int .i64],[]⟩,0,F⟩
def rM(F:zh->Option Bool):Con I:=⟨80,⟨[.val 27],[]⟩,[],⟨[.bool],[]⟩,0,F⟩
def sM(F:zh->Option Bool):Con I:=⟨81,⟨[.val 27],[]⟩,[],⟨[.bool],[]⟩,0,F⟩
def nL(F:zh->Option Bool):Con I:=⟨46,⟨[.val 27],[]⟩,[],⟨[.bool],[]⟩,0,F⟩
def VQ(F:zh->Option Bool):Con I:=⟨45,⟨[.val 27],[]⟩,[],⟨[.bool],[]⟩,0,F⟩
def jQ(F:List zh->Option Int):Con I:=⟨79,⟨[.sl 27, .clo 45 []],[]⟩,[],⟨[.int .i64],[]⟩,0,F⟩
def wQ(F:List zh->Option Bool):Con I:=⟨44,⟨[.sl 27, .clo 45 []],[]⟩,[],⟨[.bool],[]⟩,0,F⟩
def mG(F:zh->Option Int):Con I:=⟨16,⟨[.val 27],[]⟩,[],⟨[.int .i64],[]⟩,0,F⟩
def Bz(F:zh->Option Int):Con I:=⟨36,⟨[.val 27],[]⟩,[],⟨[.int .i64],[]⟩,0,F⟩
def oO(F:Int×List Bool->Option (Bool×Int)):Con I:=⟨38,⟨[.optr 0, .optr 1],[(0, .row 3),(1, .row 30)]⟩,[1],⟨[.bool],[(0, .row 3)]⟩,0,F⟩
def Yu(F:(zh×Int)×Int×List Bool->Option (Bool×Int)):Con I:=⟨37,⟨[.val 27, .int .i64, .clo 38 [0,1]],[(0, .row 3),(1, .row 30)]⟩,[1],⟨[.bool],[(0, .row 3)]⟩,0,F⟩
def lF(F:zh×VEnv×List Bool->Option (Bool×Int)):Con I:=⟨12,⟨[.val 27, .val 29, .sl 4],[]⟩,[],⟨[.bool, .int .i64],[]⟩,0,F⟩
def jF(F:Str->Option Int):Con I:=⟨111,⟨[.str],[]⟩,[],⟨[.int .i64],[]⟩,0,F⟩
def IA(F:Int×List UInt8->Option (List UInt8)):Con I:=⟨159,⟨[.own 0, .int .u8],[(0, .sl 5)]⟩,[],⟨[.own 1],[(1, .sl 5)]⟩,1,F⟩
def bN(F:Str×Int->Option (List UInt8)):Con I:=⟨110,⟨[.nilv, .str, .int .i64],[]⟩,[],⟨[.own 0],[(0, .sl 5)]⟩,1,F⟩
def WE(F:Str->Option (Str×Int)):Con I:=⟨67,⟨[.str],[]⟩,[],⟨[.str, .int .i64],[]⟩,0,F⟩
def iP(F:Int×Int×List UInt8->Option (Int×List UInt8)):Con I:=⟨114,⟨[.int .u8, .optr 0, .optr 1],[(0, .row 3),(1, .sl 5)]⟩,[],⟨[],[(0, .row 3),(1, .sl 5)]⟩,0,F⟩
def dN(F:Int->Option (Str×Int)):Con I:=⟨69,⟨[.int .i64],[]⟩,[],⟨[.str, .int .i64],[]⟩,0,F⟩
def NM(F:List zh×Str->Option Str):Con I:=⟨68,⟨[.sl 27, .str, .clo 41 []],[]⟩,[],⟨[.str],[]⟩,0,F⟩
def ul(F:zh->Option Str):Con I:=⟨41,⟨[.val 27],[]⟩,[],⟨[.str],[]⟩,0,F⟩
def aN(F:(Str×Int)×List UInt8->Option (List UInt8)):Con I:=⟨110,⟨[.own 0, .str, .int .i64],[(0, .sl 5)]⟩,[],⟨[.own 1],[(1, .sl 5)]⟩,1,F⟩
def mM(F:Unit->Option zaV):Con I:=⟨221,⟨[],[]⟩,[],⟨[.val 230],[]⟩,0,F⟩
def gP(F:(Int×Bool)×List UInt8->Option (List UInt8)):Con I:=⟨220,⟨[.own 0, .int .i64, .bool],[(0, .sl 5)]⟩,[],⟨[.own 1],[(1, .sl 5)]⟩,1,F⟩
def YN(F:zf×List UInt8->Option (List UInt8)):Con I:=⟨194,⟨[.own 0, .val 57],[(0, .sl 5)]⟩,[],⟨[.own 1],[(1, .sl 5)]⟩,1,F⟩
def lQ(F:za->Option za):Con I:=⟨95,⟨[.optr 0],[(0, .row 121)]⟩,[],⟨[],[(0, .row 121)]⟩,0,F⟩
def zK(F:Int×za->Option Int):Con I:=⟨138,⟨[.optr 0, .int .i64],[(0, .row 121)]⟩,[0],⟨[.int .i64],[]⟩,0,F⟩
def Dq(F:Int->Option Bool):Con I:=⟨139,⟨[.int .i64],[]⟩,[],⟨[.bool],[]⟩,0,F⟩
def QL(F:za->Option za):Con I:=⟨140,⟨[.optr 0, .clo 139 []],[(0, .row 121)]⟩,[],⟨[],[(0, .row 121)]⟩,0,F⟩
def tQ(F:Int->Option (List UInt8)):Con I:=⟨244,⟨[.nilv, .int .i32],[]⟩,[],⟨[.own 0],[(0, .sl 5)]⟩,1,F⟩
def NQ(F:Int->Option (List UInt8)):Con I:=⟨210,⟨[.nilv, .int .i32],[]⟩,[],⟨[.own 0],[(0, .sl 5)]⟩,1,F⟩
def su(F:Int×Int×Int->Option Bool):Con I:=⟨212,⟨[.int .i64, .int .i64, .int .i64],[]⟩,[],⟨[.bool],[]⟩,0,F⟩
def Fq(F:Int->Option Bool):Con I:=⟨182,⟨[.int .i64],[]⟩,[],⟨[.bool],[]⟩,0,F⟩
def UE(F:Int->Option Int):Con I:=⟨211,⟨[.int .i64],[]⟩,[],⟨[.int .i64],[]⟩,0,F⟩
def xQ(F:za->Option (za×List UInt8)):Con I:=⟨180,⟨[.optr 0, .nilv],[(0, .row 121)]⟩,[],⟨[.own 1],[(0, .row 121),(1, .sl 5)]⟩,1,F⟩
def sQ(F:Int×List UInt8->Option (List UInt8)):Con I:=⟨244,⟨[.own 0, .int .i32],[(0, .sl 5)]⟩,[],⟨[.own 1],[(1, .sl 5)]⟩,1,F⟩
def MQ(F:Int×List UInt8->Option (List UInt8)):Con I:=⟨210,⟨[.own 0, .int .i32],[(0, .sl 5)]⟩,[],⟨[.own 1],[(1, .sl 5)]⟩,1,F⟩
def qB(F:za×List UInt8->Option (za×List UInt8)):Con I:=⟨180,⟨[.optr 0, .own 1],[(0, .row 121),(1, .sl 5)]⟩,[],⟨[.own 2],[(0, .row 121),(2, .sl 5)]⟩,1,F⟩
def pQ(F:za->Option (zf×za)):Con I:=⟨141,⟨[.optr 0],[(0, .row 121)]⟩,[],⟨[.val 57],[(0, .row 121)]⟩,0,F⟩
def vF(F:Int->Option Bool):Con I:=⟨181,⟨[.int .i64],[]⟩,[],⟨[.bool],[]⟩,0,F⟩
def dG(F:Int->Option Bool):Con I:=⟨142,⟨[.int .i64],[]⟩,[],⟨[.bool],[]⟩,0,F⟩
def ZO(F:Int×za->Option Bool):Con I:=⟨143,⟨[.optr 0, .int .i64],[(0, .row 121)]⟩,[0],⟨[.bool],[]⟩,0,F⟩
def RH(F:Int×za->Option Bool):Con I:=⟨144,⟨[.optr 0, .int .i64],[(0, .row 121)]⟩,[0],⟨[.bool],[]⟩,0,F⟩
def UA(F:za->Option (Str×za)):Con I:=⟨145,⟨[.optr 0],[(0, .row 121)]⟩,[],⟨[.str],[(0, .row 121)]⟩,0,F⟩
def rQ(F:za->Option Bool):Con I:=⟨146,⟨[.optr 0],[(0, .row 121)]⟩,[0],⟨[.bool],[]⟩,0,F⟩
def fQ(F:za->Option za):Con I:=⟨140,⟨[.optr 0, .clo 182 []],[(0, .row 121)]⟩,[],⟨[],[(0, .row 121)]⟩,0,F⟩
def iQ(F:za->Option (Bool×za)):Con I:=⟨183,⟨[.optr 0],[(0, .row 121)]⟩,[],⟨[.bool],[(0, .row 121)]⟩,0,F⟩
def OQ(F:Str->Option Int):Con I:=⟨184,⟨[.str],[]⟩,[],⟨[.int .i64],[]⟩,0,F⟩
def gQ(F:za->Option (zf×za)):Con I:=⟨147,⟨[.optr 0],[(0, .row 121)]⟩,[],⟨[.val 57],[(0, .row 121)]⟩,0,F⟩
def RQ(F:za->Option (zf×za)):Con I:=⟨216,⟨[.optr 0],[(0, .row 121)]⟩,[],⟨[.val 57],[(0, .row 121)]⟩,0,F⟩
def PQ(F:za->Option (zf×za)):Con I:=⟨185,⟨[.optr 0],[(0, .row 121)]⟩,[],⟨[.val 57],[(0, .row 121)]⟩,0,F⟩
def XQ(F:za->Option (zf×za)):Con I:=⟨148,⟨[.optr 0],[(0, .row 121)]⟩,[],⟨[.val 57],[(0, .row 121)]⟩,0,F⟩
def IQ(F:za->Option (zf×za)):Con I:=⟨96,⟨[.optr 0],[(0, .row 121)]⟩,[],⟨[.val 57],[(0, .row 121)]⟩,0,F⟩
def CQ(F:(zf×Int×Int)×List zf->Option (List zf)):Con I:=⟨56,⟨[.val 57, .int .i64, .int .i64, .optr 0],[(0, .cells 62 [.own 1]),(1, .sl 57)]⟩,[],⟨[],[(0, .cells 62 [.own 2]),(2, .sl 57)]⟩,1,F⟩
def bO(F:Str->Option (Int×List zf)):Con I:=⟨55,⟨[.str, .clo 56 [0]],[(0, .cells 62 [.nilv])]⟩,[],⟨[.int .i64],[(0, .cells 62 [.own 1]),(1, .sl 57)]⟩,1,F⟩
def eG(F:Str->Option (List zf×Int)):Con I:=⟨27,⟨[.str],[]⟩,[],⟨[.sl 57, .int .i64],[]⟩,0,F⟩
def KQ(F:List zf×List zf->Option Bool):Con I:=⟨195,⟨[.sl 57, .sl 57],[]⟩,[],⟨[.bool],[]⟩,0,F⟩
def nM(F:List zf->Option (Str×Int)):Con I:=⟨163,⟨[.sl 57],[]⟩,[],⟨[.str, .int .i64],[]⟩,0,F⟩
def GM(F:List ze->Option (Str×Int)):Con I:=⟨115,⟨[.sl 59],[]⟩,[],⟨[.str, .int .i64],[]⟩,0,F⟩
def MM(F:zB->Option (Str×Int)):Con I:=⟨72,⟨[.val 24],[]⟩,[],⟨[.str, .int .i64],[]⟩,0,F⟩
def lG(F:zh×Bool->Option (Str×Bool)):Con I:=⟨70,⟨[.val 27, .optr 0],[(0, .cells 75 [.optr 1]),(1, .row 4)]⟩,[0],⟨[.str],[(1, .row 4)]⟩,0,F⟩
def gN(F:(List zh×Str)×Bool->Option (Str×Bool)):Con I:=⟨68,⟨[.sl 27, .str, .clo 70 [0]],[(0, .cells 75 [.optr 1]),(1, .row 4)]⟩,[0],⟨[.str],[(1, .row 4)]⟩,0,F⟩
def Qo(F:zh×Bool->Option (Str×Bool)):Con I:=⟨42,⟨[.val 27, .optr 0],[(0, .row 4)]⟩,[],⟨[.str],[(0, .row 4)]⟩,0,F⟩
def bE(F:zh->Option (Str×Int)):Con I:=⟨14,⟨[.val 27],[]⟩,[],⟨[.str, .int .i64],[]⟩,0,F⟩
def aQ(F:zh->Option Int):Con I:=⟨19,⟨[.val 27],[]⟩,[],⟨[.int .i64],[]⟩,0,F⟩
def UG(F:Str->Option (List ze)):Con I:=⟨24,⟨[.str],[]⟩,[],⟨[.sl 59],[]⟩,0,F⟩
def kM(F:List ze×Int->Option (List (List ze)×Int)):Con I:=⟨52,⟨[.sl 59, .int .u8],[]⟩,[],⟨[.sl 22, .int .i64],[]⟩,0,F⟩
def qL(F:zk->Option Int):Con I:=⟨89,⟨[.optr 0],[(0, .row 85)]⟩,[0],⟨[.int .u8],[]⟩,0,F⟩
def qM(F:zk->Option (ze×zk)):Con I:=⟨90,⟨[.optr 0],[(0, .row 85)]⟩,[],⟨[.val 59],[(0, .row 85)]⟩,0,F⟩
def qY(F:zk->Option (Bool×zk)):Con I:=⟨53,⟨[.optr 0],[(0, .row 85)]⟩,[],⟨[.bool],[(0, .row 85)]⟩,0,F⟩
def WA(F:List Str×zk->Option (Str×zk)):Con I:=⟨86,⟨[.optr 0, .sl 9],[(0, .row 85)]⟩,[],⟨[.str],[(0, .row 85)]⟩,0,F⟩
def bQ(F:zk->Option ((zh×Bool)×zk)):Con I:=⟨93,⟨[.optr 0],[(0, .row 85)]⟩,[],⟨[.val 27, .bool],[(0, .row 85)]⟩,0,F⟩
def UQ(F:zk->Option ((zh×Bool)×zk)):Con I:=⟨54,⟨[.optr 0],[(0, .row 85)]⟩,[],⟨[.val 27, .bool],[(0, .row 85)]⟩,0,F⟩
def uM(F:List ze->Option (zh×Int)):Con I:=⟨25,⟨[.sl 59],[]⟩,[],⟨[.val 27, .int .i64],[]⟩,0,F⟩
def WN(F:Str×Str×Int×Int->Option Bool):Con I:=⟨21,⟨[.str, .str, .int .i64, .int .i64],[]⟩,[],⟨[.bool],[]⟩,0,F⟩
def LM(F:List ze->Option (List ze)):Con I:=⟨203,⟨[.sl 59],[]⟩,[],⟨[.sl 59],[]⟩,0,F⟩
def oM(F:List ze->Option (List ze)):Con I:=⟨202,⟨[.sl 59],[]⟩,[],⟨[.sl 59],[]⟩,0,F⟩
def NL(F:List ze->Option (zB×Bool)):Con I:=⟨174,⟨[.sl 59],[]⟩,[],⟨[.val 24, .bool],[]⟩,0,F⟩
def PL(F:List ze->Option (zB×Bool×Int)):Con I:=⟨132,⟨[.sl 59],[]⟩,[],⟨[.val 24, .bool, .int .i64],[]⟩,0,F⟩
def vP(F:zk->Option ((zh×Bool)×zk)):Con I:=⟨87,⟨[.optr 0],[(0, .row 85)]⟩,[],⟨[.val 27, .bool],[(0, .row 85)]⟩,0,F⟩
def qN(F:zk->Option ((zh×Bool)×zk)):Con I:=⟨51,⟨[.optr 0],[(0, .row 85)]⟩,[],⟨[.val 27, .bool],[(0, .row 85)]⟩,0,F⟩
def jP(F:List ze->Option (zh×Int)):Con I:=⟨23,⟨[.sl 59],[]⟩,[],⟨[.val 27, .int .i64],[]⟩,0,F⟩
def dP(F:Int×List Bool->Option (Bool×Int)):Con I:=⟨38,⟨[.optr 0, .optr 1],[(0, .row 3),(1, .cells 30 [.own 2]),(2, .sl 4)]⟩,[1,2],⟨[.bool],[(0, .row 3)]⟩,0,F⟩
def Kv(F:(zh×Int)×Int×List Bool->Option (Bool×Int)):Con I:=⟨37,⟨[.val 27, .int .i64, .clo 38 [0,1]],[(0, .row 3),(1, .cells 30 [.own 2]),(2, .sl 4)]⟩,[1,2],⟨[.bool],[(0, .row 3)]⟩,0,F⟩
def WG(F:(zh×VEnv)×List Bool->Option (Bool×Int)):Con I:=⟨12,⟨[.val 27, .val 29, .own 0],[(0, .sl 4)]⟩,[0],⟨[.bool, .int .i64],[]⟩,0,F⟩
def nP(F:Str×Str×Bool×Bool->Option Bool):Con I:=⟨22,⟨[.str, .str, .bool, .bool],[]⟩,[],⟨[.bool],[]⟩,0,F⟩
def XN(F:Unit->Option Bool):Con I:=⟨26,⟨[],[]⟩,[],⟨[.bool],[]⟩,0,F⟩
def uP(F:zh×zh×List Bool×List Bool->Option Bool):Con I:=⟨5,⟨[.val 27, .val 27, .sl 4, .sl 4],[]⟩,[],⟨[.bool],[]⟩,0,F⟩
def jO(F:List ze->Option (List zf)):Con I:=⟨164,⟨[.nilv, .sl 59],[]⟩,[],⟨[.sl 57],[]⟩,0,F⟩
def LJ(F:Str->Option (Str×Int)):Con I:=⟨94,⟨[.str],[]⟩,[],⟨[.str, .int .i64],[]⟩,0,F⟩
theorem EU:zm Tryz.prog (LJ Nn):=JV
def WK(F:Str×Int->Option Int):Con I:=⟨156,⟨[.str, .int .u8],[]⟩,[],⟨[.int .i64],[]⟩,0,F⟩
theorem FW:zm Tryz.prog (WK Yr):=dV
def RD(F:Str×Str->Option Int):Con I:=⟨137,⟨[.str, .str],[]⟩,[],⟨[.int .i64],[]⟩,0,F⟩
theorem yJ:zm Tryz.prog (RD Dj):=IV
def IJ(F:Str×Str->Option Str):Con I:=⟨213,⟨[.str, .str],[]⟩,[],⟨[.str],[]⟩,0,F⟩
theorem BU:zm Tryz.prog (IJ Rk):=FV
def GJ(F:Str×Str->Option Str):Con I:=⟨258,⟨[.str, .str],[]⟩,[],⟨[.str],[]⟩,0,F⟩
theorem AU:zm Tryz.prog (GJ Bn):=DV
def JM(F:Str×Str->Option Int):Con I:=⟨214,⟨[.str, .str],[]⟩,[],⟨[.int .i64],[]⟩,0,F⟩
theorem KX:zm Tryz.prog (JM Vs):=SY
def YR(F:Str×Str->Option (Str×Str×Bool)):Con I:=⟨215,⟨[.str, .str],[]⟩,[],⟨[.str, .str, .bool],[]⟩,0,F⟩
theorem zBL:zm Tryz.prog (YR cutF):=zBn
def XK(F:Int×Int->Option Str):Con I:=⟨259,⟨[.int .i64, .int .i64],[]⟩,[],⟨[.str],[]⟩,0,F⟩
theorem IW:zm Tryz.prog (XK yw):=fV
def RL(F:(Int×Int)×List UInt8->Option (List UInt8)):Con I:=⟨191,⟨[.own 0, .int .u64, .int .i64],[(0, .sl 5)]⟩,[],⟨[.own 1],[(1, .sl 5)]⟩,1,F⟩
theorem AX:zm Tryz.prog (RL Fy):=gW
def TL(F:(Int×Int)×List UInt8->Option (List UInt8)):Con I:=⟨257,⟨[.own 0, .int .i64, .int .i64],[(0, .sl 5)]⟩,[],⟨[.own 1],[(1, .sl 5)]⟩,1,F⟩
theorem BX:zm Tryz.prog (TL Gy):=iW
def KJ(F:List zf->Option (List ze×Int)):Con I:=⟨28,⟨[.sl 57],[]⟩,[],⟨[.sl 59, .int .i64],[]⟩,0,F⟩
theorem DU:zm Tryz.prog (KJ parseF):=GV
def jC(F:List Str×Str->Option Str):Con I:=⟨112,⟨[.sl 9, .str],[]⟩,[],⟨[.str],[]⟩,0,F⟩
theorem bJ:zm Tryz.prog (jC wh):=OT
theorem DY(qj:zh×Int->Option Int)(hs:zm Tryz.prog (Rp qj)):zm Tryz.prog (Rp (Wp qj)):=
 okC (A:=⟨[Rp qj],[],[],0,[(3,⟨[5,6],⟨[.int .i64, .int .i64],[]⟩,[1,2,4],[0],[],0,[5],⟨[.int .i64],[]⟩,[]⟩)],[],[]⟩) (exS:=⟨[.int .i64],[]⟩) Tryz.f31 (memC hs zx) (by kernel_rfl) (by kernel_rfl) fun x=>by kernel_rfl
theorem PN:zm Tryz.prog (Rp qj):=
 zm.recE (I:=I) (P:=Tryz.prog) (f:=31) (inS:=⟨[.val 27, .int .i64],[]⟩) (cst:=[]) (outS:=⟨[.int .i64],[]⟩) (k:=0) (Wp) (by kernel_rfl) (fun S h=>DY S h)
theorem FY(Ql:List ze×Int->Option Int)(hs:zm Tryz.prog (Xu Ql)):zm Tryz.prog (Xu (Xp Ql)):=
 okC (A:=⟨[Xu Ql],[],[],0,[(3,⟨[5,6],⟨[.int .i64, .int .i64],[]⟩,[0,1,4],[],[],0,[5],⟨[.int .i64],[]⟩,[]⟩)],[],[]⟩) (exS:=⟨[.int .i64],[]⟩) Tryz.f104 (memC hs zx) (by kernel_rfl) (by kernel_rfl) fun x=>by kernel_rfl
theorem pY:zm Tryz.prog (Xu Ql):=
 zm.recE (I:=I) (P:=Tryz.prog) (f:=104) (inS:=⟨[.sl 59, .int .i64],[]⟩) (cst:=[]) (outS:=⟨[.int .i64],[]⟩) (k:=0) (Xp) (by kernel_rfl) (fun S h=>FY S h)
theorem OG:zm Tryz.prog (kz QX):=
 okC (A:=⟨[],[],[],0,[],[(6,⟨[6],⟨[.bool],[]⟩,[3],[],[],0,[],⟨[],[]⟩,[]⟩)],[]⟩) (exS:=⟨[.int .u8],[]⟩) Tryz.f153 zx (by kernel_rfl) (by kernel_rfl) fun x=>by kernel_rfl
theorem GY(qP:List ze->Option Int)(hs:zm Tryz.prog (ol qP)):zm Tryz.prog (ol (Dz qP)):=
 okC (A:=⟨[kz QX,ol qP],[],[],0,[(3,⟨[3,4],⟨[.int .i64, .int .i64],[]⟩,[0,2],[],[],0,[3],⟨[.int .i64],[]⟩,[]⟩)],[(4,⟨[3,4],⟨[.int .i64, .int .i64],[]⟩,[],[],[],0,[],⟨[],[]⟩,[]⟩)],[]⟩) (exS:=⟨[.int .i64],[]⟩) Tryz.f105 (memC OG (memC hs zx)) (by kernel_rfl) (by kernel_rfl) fun x=>by kernel_rfl
theorem MF:zm Tryz.prog (ol qP):=
 zm.recE (I:=I) (P:=Tryz.prog) (f:=105) (inS:=⟨[.sl 59],[]⟩) (cst:=[]) (outS:=⟨[.int .i64],[]⟩) (k:=0) (Dz) (by kernel_rfl) (fun S h=>GY S h)
theorem J4:zm Tryz.prog (wN Du):=
 okC (A:=⟨[Xu Ql,ol qP],[],[],0,[(5,⟨[3,4],⟨[.int .i64, .int .i64],[]⟩,[0],[],[],0,[],⟨[],[]⟩,[]⟩)],[],[]⟩) (exS:=⟨[.bool],[]⟩) Tryz.f61 (memC pY (memC MF zx)) (by kernel_rfl) (by kernel_rfl) fun x=>by kernel_rfl
theorem CY(jh:zh->Option Bool)(hs:zm Tryz.prog (Vu jh)):zm Tryz.prog (Vu (Vp jh)):=
 okC (A:=⟨[wN Du,Vu jh],[(1,[2])],[],0,[(4,⟨[3],⟨[.int .i64],[]⟩,[1],[0],[],0,[],⟨[],[]⟩,[]⟩)],[],[]⟩) (exS:=⟨[.bool],[]⟩) Tryz.f32 (memC J4 (memC hs zx)) (by kernel_rfl) (by kernel_rfl) fun x=>by kernel_rfl
theorem mY:zm Tryz.prog (Vu jh):=
 zm.recE (I:=I) (P:=Tryz.prog) (f:=32) (inS:=⟨[.val 27],[]⟩) (cst:=[]) (outS:=⟨[.bool],[]⟩) (k:=0) (Vp) (by kernel_rfl) (fun S h=>CY S h)
theorem Y3:zm Tryz.prog (uN Bp):=
 okC (A:=⟨[Rp qj,Vu jh],[],[],0,[],[],[]⟩) (exS:=⟨[.bool],[]⟩) Tryz.f9 (memC PN (memC mY zx)) (by kernel_rfl) (by kernel_rfl) fun x=>by kernel_rfl
theorem uF:zm Tryz.prog (cz qW):=
 okC (A:=⟨[],[],[],0,[],[(7,⟨[6],⟨[.bool],[]⟩,[0],[],[],0,[],⟨[],[]⟩,[]⟩)],[]⟩) (exS:=⟨[.int .u8],[]⟩) Tryz.f58 zx (by kernel_rfl) (by kernel_rfl) fun x=>by kernel_rfl
theorem jX(qp:List ze×Int->Option zA)(hs:zm Tryz.prog (Pp qp)):zm Tryz.prog (Pp (Gp qp)):=
 okC (A:=⟨[cz qW,Pp qp],[],[],0,[(3,⟨[12],⟨[.int .i64],[(1, .row 111)]⟩,[1,4,5,10,11],[0],[1],0,[],⟨[],[(1, .row 111)]⟩,[1]⟩)],[(9,⟨[],⟨[],[(1, .row 111)]⟩,[7,8,12],[2],[1],0,[],⟨[],[]⟩,[]⟩),(12,⟨[12],⟨[.int .i64],[(1, .row 111)]⟩,[],[],[1],0,[],⟨[],[]⟩,[]⟩)],[]⟩) (exS:=⟨[.optr 0],[(0, .row 111)]⟩) Tryz.f85 (memC uF (memC hs zx)) (by kernel_rfl) (by kernel_rfl) fun x=>by kernel_rfl
theorem BN:zm Tryz.prog (Pp qp):=
 zm.recE (I:=I) (P:=Tryz.prog) (f:=85) (inS:=⟨[.sl 59, .int .u8],[]⟩) (cst:=[]) (outS:=⟨[.val 111],[]⟩) (k:=0) (Gp) (by kernel_rfl) (fun S h=>jX S h)
theorem Em:zm Tryz.prog (uj ZG):=
 okC (A:=⟨[Pp qp],[],[],0,[],[],[]⟩) (exS:=⟨[.int .i64],[]⟩) Tryz.f50 (memC BN zx) (by kernel_rfl) (by kernel_rfl) fun x=>by kernel_rfl
theorem yY:zm Tryz.prog (lM Rl):=
 okC (A:=⟨[uj ZG,Pp qp],[],[],0,[],[],[]⟩) (exS:=⟨[.int .i64, .int .i64],[]⟩) Tryz.f82 (memC Em (memC BN zx)) (by kernel_rfl) (by kernel_rfl) fun x=>by kernel_rfl
theorem Y2(ZL:List ze×List zf->Option (List zf))(hs:zm Tryz.prog (xu ZL)):zm Tryz.prog (xu (Cq ZL)):=
 okC (A:=⟨[cz qW,xu ZL],[(4,[3]),(7,[6])],[],1,[(2,⟨[0,10],⟨[.own 1001, .int .i64],[(1001, .sl 57)]⟩,[4,8,9],[],[],0,[0],⟨[.own 1001],[(1001, .sl 57)]⟩,[1001]⟩)],[(8,⟨[0,10],⟨[.own 1103, .int .i64],[(1103, .sl 57)]⟩,[],[],[],0,[],⟨[],[]⟩,[]⟩)],[]⟩) (exS:=⟨[.own 1],[(1, .sl 57)]⟩) Tryz.f164 (memC uF (memC hs zx)) (by kernel_rfl) (by kernel_rfl) fun x=>by kernel_rfl
theorem mZ:zm Tryz.prog (xu ZL):=
 zm.recE (I:=I) (P:=Tryz.prog) (f:=164) (inS:=⟨[.own 0, .sl 59],[(0, .sl 57)]⟩) (cst:=[]) (outS:=⟨[.own 1],[(1, .sl 57)]⟩) (k:=1) (Cq) (by kernel_rfl) (fun S h=>Y2 S h)
theorem xO:zm Tryz.prog (UN Q7):=
 okC (A:=⟨[cz qW,xu ZL],[(4,[3]),(7,[6])],[],0,[(2,⟨[0,10],⟨[.own 1105, .int .i64],[(1105, .sl 57)]⟩,[4,8,9],[],[],0,[0],⟨[.own 1105],[(1105, .sl 57)]⟩,[1105]⟩)],[(8,⟨[0,10],⟨[.own 1207, .int .i64],[(1207, .sl 57)]⟩,[],[],[],0,[],⟨[],[]⟩,[]⟩)],[]⟩) (exS:=⟨[.own 0],[(0, .sl 57)]⟩) Tryz.f164 (memC uF (memC mZ zx)) (by kernel_rfl) (by kernel_rfl) fun x=>by kernel_rfl
theorem R4:zm Tryz.prog (jO Q7):=rU ipOK (by kernel_rfl) xO
theorem JX:zm Tryz.prog (IM El):=
 okC (A:=⟨[uj ZG,UN Q7],[],[],0,[],[],[]⟩) (exS:=⟨[.sl 57, .int .i64],[]⟩) Tryz.f122 (memC Em (memC xO zx)) (by kernel_rfl) (by kernel_rfl) fun x=>by kernel_rfl
theorem qi:zm Tryz.prog (ZV strings_IndexByte):=
 okC (A:=⟨[WK Yr],[],[],0,[],[],[]⟩) (exS:=⟨[.int .i64],[]⟩) Tryz.f109 (memC FW zx) (by kernel_rfl) (by kernel_rfl) fun x=>by kernel_rfl
theorem kQ:zm Tryz.prog (aH stringslite_HasPrefix):=
 okC (A:=⟨[],[],[],0,[],[],[]⟩) (exS:=⟨[.bool],[]⟩) Tryz.f173 zx (by kernel_rfl) (by kernel_rfl) fun x=>by kernel_rfl
theorem Zr:zm Tryz.prog (Zl strings_HasPrefix):=
 okC (A:=⟨[aH stringslite_HasPrefix],[],[],0,[],[],[]⟩) (exS:=⟨[.bool],[]⟩) Tryz.f130 (memC kQ zx) (by kernel_rfl) (by kernel_rfl) fun x=>by kernel_rfl
theorem lu:zm Tryz.prog (Gq ZJ):=
 okC (A:=⟨[],[],[],0,[(3,⟨[10],⟨[.int .i64],[(0, .sl 5)]⟩,[2,3,8,9],[],[0],0,[],⟨[],[(0, .sl 5)]⟩,[0]⟩)],[(7,⟨[10],⟨[.int .i64],[(0, .sl 5)]⟩,[],[],[0],0,[],⟨[],[]⟩,[]⟩)],[]⟩) (exS:=⟨[.str],[]⟩) Tryz.f91 zx (by kernel_rfl) (by kernel_rfl) fun x=>by kernel_rfl
theorem DZ:zm Tryz.prog (pM Vl):=
 okC (A:=⟨[ZV strings_IndexByte,Zl strings_HasPrefix,Gq ZJ],[],[],0,[],[],[]⟩) (exS:=⟨[.bool],[]⟩) Tryz.f123 (memC qi (memC Zr (memC lu zx))) (by kernel_rfl) (by kernel_rfl) fun x=>by kernel_rfl
theorem zgf:zm Tryz.prog (mQ stringslite_TrimPrefix):=
 okC (A:=⟨[aH stringslite_HasPrefix],[],[],0,[],[],[]⟩) (exS:=⟨[.str],[]⟩) Tryz.f266 (memC kQ zx) (by kernel_rfl) (by kernel_rfl) fun x=>by kernel_rfl
theorem I9:zm Tryz.prog (JQ strings_TrimPrefix):=
 okC (A:=⟨[mQ stringslite_TrimPrefix],[],[],0,[],[],[]⟩) (exS:=⟨[.str],[]⟩) Tryz.f236 (memC zgf zx) (by kernel_rfl) (by kernel_rfl) fun x=>by kernel_rfl
theorem Bv:zm Tryz.prog (Tp qh):=
 okC (A:=⟨[],[],[],0,[],[],[]⟩) (exS:=⟨[.bool],[]⟩) Tryz.f158 zx (by kernel_rfl) (by kernel_rfl) fun x=>by kernel_rfl
theorem NP:zm Tryz.prog (VG aj):=
 okC (A:=⟨[JQ strings_TrimPrefix,Tp qh],[],[],0,[],[],[]⟩) (exS:=⟨[.bool],[]⟩) Tryz.f199 (memC I9 (memC Bv zx)) (by kernel_rfl) (by kernel_rfl) fun x=>by kernel_rfl
theorem yO:zm Tryz.prog (BG Ou):=
 okC (A:=⟨[],[],[],0,[],[],[]⟩) (exS:=⟨[.bool],[]⟩) Tryz.f190 zx (by kernel_rfl) (by kernel_rfl) fun x=>by kernel_rfl
theorem NF:zm Tryz.prog (Kz lh):=
 okC (A:=⟨[BG Ou,Tp qh],[],[],0,[],[],[]⟩) (exS:=⟨[.bool],[]⟩) Tryz.f157 (memC yO (memC Bv zx)) (by kernel_rfl) (by kernel_rfl) fun x=>by kernel_rfl
theorem J8:zm Tryz.prog (EQ strings_Contains):=
 okC (A:=⟨[RD Dj],[],[],0,[],[],[]⟩) (exS:=⟨[.bool],[]⟩) Tryz.f200 (memC yJ zx) (by kernel_rfl) (by kernel_rfl) fun x=>by kernel_rfl
theorem MX:zm Tryz.prog (KM Uo):=
 okC (A:=⟨[ZV strings_IndexByte,VG aj,Zl strings_HasPrefix,Kz lh,EQ strings_Contains],[],[],0,[],[(8,⟨[3,4,5,6,7,25],⟨[.bool, .bool, .bool, .bool, .bool, .bool],[]⟩,[1,16],[],[],0,[],⟨[],[]⟩,[]⟩),(14,⟨[3,4,5,6,7,63],⟨[.bool, .bool, .bool, .bool, .bool, .bool],[]⟩,[],[],[],0,[],⟨[],[]⟩,[]⟩),(22,⟨[4,5,6,7,94],⟨[.bool, .bool, .bool, .bool, .bool],[]⟩,[3],[],[],0,[],⟨[],[]⟩,[]⟩),(24,⟨[3,4,5,6,7],⟨[.bool, .bool, .bool, .bool, .bool],[]⟩,[1],[0],[],0,[],⟨[],[]⟩,[]⟩)],[]⟩) (exS:=⟨[.bool],[]⟩) Tryz.f169 (memC qi (memC NP (memC Zr (memC NF (memC J8 zx))))) (by kernel_rfl) (by kernel_rfl) fun x=>by kernel_rfl
theorem U4:zm Tryz.prog (mO qm):=
 okC (A:=⟨[],[],[],1,[],[],[]⟩) (exS:=⟨[.bool],[]⟩) Tryz.f201 zx (by kernel_rfl) (by kernel_rfl) fun x=>by kernel_rfl
theorem nu:zm Tryz.prog (Hq ZW):=
 okC (A:=⟨[Gq ZJ],[],[],0,[],[],[]⟩) (exS:=⟨[.bool],[]⟩) Tryz.f131 (memC lu zx) (by kernel_rfl) (by kernel_rfl) fun x=>by kernel_rfl
theorem CO:zm Tryz.prog (iF bi):=
 okC (A:=⟨[mO qm,Hq ZW],[],[],0,[],[(11,⟨[5],⟨[.int .i64],[]⟩,[3],[0],[],0,[],⟨[],[]⟩,[]⟩)],[]⟩) (exS:=⟨[.int .i64],[]⟩) Tryz.f170 (memC U4 (memC nu zx)) (by kernel_rfl) (by kernel_rfl) fun x=>by kernel_rfl
theorem JO:zm Tryz.prog (kF QJ):=
 okC (A:=⟨[KM Uo,iF bi],[],[],0,[(4,⟨[10],⟨[.int .i64],[]⟩,[0,8,9],[],[],0,[],⟨[],[]⟩,[]⟩)],[],[]⟩) (exS:=⟨[.int .i64],[]⟩) Tryz.f124 (memC MX (memC CO zx)) (by kernel_rfl) (by kernel_rfl) fun x=>by kernel_rfl
theorem Ol:zm Tryz.prog (Pj Zz):=
 okC (A:=⟨[],[],[],0,[],[],[]⟩) (exS:=⟨[.bool],[]⟩) Tryz.f128 zx (by kernel_rfl) (by kernel_rfl) fun x=>by kernel_rfl
theorem A8(zt:List ze->Option Bool)(h_decl_closers:zm Tryz.prog (Qe zt)):zm Tryz.prog (bP (Qf zt)):=
 okC (A:=⟨[Pj Zz,Qe zt],[],[],0,[],[],[]⟩) (exS:=⟨[.bool],[]⟩) Tryz.f171 (memC Ol (memC h_decl_closers zx)) (by kernel_rfl) (by kernel_rfl) fun x=>by kernel_rfl
theorem zge(zt:List ze->Option Bool)(h_decl_closers:zm Tryz.prog (Qe zt)):zm Tryz.prog (nQ (ZP zt)):=
 okC (A:=⟨[bP (Qf zt)],[],[],0,[(2,⟨[8],⟨[.int .i64],[]⟩,[0,1,7],[],[],0,[],⟨[],[]⟩,[]⟩)],[],[]⟩) (exS:=⟨[.int .i64],[]⟩) Tryz.f172 (memC (A8 zt h_decl_closers) zx) (by kernel_rfl) (by kernel_rfl) fun x=>by kernel_rfl
theorem zev(zt:List ze->Option Bool)(h_decl_closers:zm Tryz.prog (Qe zt)):zm Tryz.prog (uQ (Zp zt)):=
 okC (A:=⟨[nQ (ZP zt)],[],[],0,[],[],[]⟩) (exS:=⟨[.bool],[]⟩) Tryz.f126 (memC (zge zt h_decl_closers) zx) (by kernel_rfl) (by kernel_rfl) fun x=>by kernel_rfl
theorem U5(zt:List ze->Option Bool)(hs:zm Tryz.prog (Qe zt)):zm Tryz.prog (Qe (Jq zt)):=
 okC (A:=⟨[uQ (Zp zt)],[],[],0,[],[],[]⟩) (exS:=⟨[.bool],[]⟩) Tryz.f125 (memC (zev zt hs) zx) (by kernel_rfl) (by kernel_rfl) fun x=>by kernel_rfl
theorem V4:zm Tryz.prog (Qe zt):=
 zm.recE (I:=I) (P:=Tryz.prog) (f:=125) (inS:=⟨[.sl 59],[]⟩) (cst:=[]) (outS:=⟨[.bool],[]⟩) (k:=0) (Jq) (by kernel_rfl) (fun S h=>U5 S h)
theorem FN:zm Tryz.prog (XE Il):=
 okC (A:=⟨[Pj Zz],[],[],0,[],[],[]⟩) (exS:=⟨[.bool],[]⟩) Tryz.f129 (memC Ol zx) (by kernel_rfl) (by kernel_rfl) fun x=>by kernel_rfl
theorem X4:zm Tryz.prog (nO gp):=
 okC (A:=⟨[Pj Zz,XE Il],[],[],0,[],[],[]⟩) (exS:=⟨[.bool],[]⟩) Tryz.f127 (memC Ol (memC FN zx)) (by kernel_rfl) (by kernel_rfl) fun x=>by kernel_rfl
theorem zfh:zm Tryz.prog (vQ Zy):=
 okC (A:=⟨[nO gp],[],[],0,[(2,⟨[8],⟨[.int .i64],[]⟩,[0,1,7],[],[],0,[],⟨[],[]⟩,[]⟩)],[],[]⟩) (exS:=⟨[.int .i64],[]⟩) Tryz.f172 (memC X4 zx) (by kernel_rfl) (by kernel_rfl) fun x=>by kernel_rfl
theorem zdY:zm Tryz.prog (yQ Za):=
 okC (A:=⟨[vQ Zy],[],[],0,[],[],[]⟩) (exS:=⟨[.bool],[]⟩) Tryz.f126 (memC zfh zx) (by kernel_rfl) (by kernel_rfl) fun x=>by kernel_rfl
theorem RF:zm Tryz.prog (Nz QI):=
 okC (A:=⟨[IM El,pM Vl,kF QJ,Qe zt,yQ Za,Zl strings_HasPrefix,Pj Zz],[],[],0,[],[],[]⟩) (exS:=⟨[.int .i64],[]⟩) Tryz.f83 (memC JX (memC DZ (memC JO (memC V4 (memC zdY (memC Zr (memC Ol zx))))))) (by kernel_rfl) (by kernel_rfl) fun x=>by kernel_rfl
theorem Ez:zm Tryz.prog (Ju ZZ):=
 okC (A:=⟨[],[],[],0,[],[],[]⟩) (exS:=⟨[.bool],[]⟩) Tryz.f47 zx (by kernel_rfl) (by kernel_rfl) fun x=>by kernel_rfl
theorem GN:zm Tryz.prog (YE Xi):=
 okC (A:=⟨[],[],[],0,[],[],[]⟩) (exS:=⟨[.bool],[]⟩) Tryz.f71 zx (by kernel_rfl) (by kernel_rfl) fun x=>by kernel_rfl
theorem kX(Z9:zh×Int->Option ((Int×Bool)×Int))(hs:zm Tryz.prog (Iu Z9)):zm Tryz.prog (Iu (Yj Z9)):=
 okC (A:=⟨[lM Rl,Nz QI,Ju ZZ,Iu Z9,YE Xi],[],[],1,[(19,⟨[9,97],⟨[.int .i64, .int .i64],[(0, .row 3)]⟩,[1,95,96],[],[0],1,[9],⟨[.int .i64],[(0, .row 3)]⟩,[0]⟩)],[(15,⟨[69],⟨[.bool],[]⟩,[1,2,6],[0,1],[],0,[],⟨[],[]⟩,[]⟩),(26,⟨[9,12],⟨[.int .i64, .int .i64],[]⟩,[97],[0],[],0,[],⟨[],[]⟩,[]⟩)],[]⟩) (exS:=⟨[.int .i64, .bool],[(0, .row 3)]⟩) Tryz.f48 (memC yY (memC RF (memC Ez (memC hs (memC GN zx))))) (by kernel_rfl) (by kernel_rfl) fun x=>by kernel_rfl
theorem RX:zm Tryz.prog (Iu Z9):=
 zm.recE (I:=I) (P:=Tryz.prog) (f:=48) (inS:=⟨[.val 27, .optr 0],[(0, .row 3)]⟩) (cst:=[]) (outS:=⟨[.int .i64, .bool],[(0, .row 3)]⟩) (k:=0) (Yj) (by kernel_rfl) (fun S h=>kX S h)
theorem GH:zm Tryz.prog (VA Ze):=
 okC (A:=⟨[Iu Z9],[],[],0,[],[],[]⟩) (exS:=⟨[.int .i64],[]⟩) Tryz.f18 (memC RX zx) (by kernel_rfl) (by kernel_rfl) fun x=>by kernel_rfl
theorem nZ:zm Tryz.prog (VN Vj):=
 okC (A:=⟨[],[],[],1,[],[],[]⟩) (exS:=⟨[.bool],[]⟩) Tryz.f106 zx (by kernel_rfl) (by kernel_rfl) fun x=>by kernel_rfl
theorem D9:zm Tryz.prog (LQ qQ):=
 okC (A:=⟨[],[],[],0,[],[],[]⟩) (exS:=⟨[.own 0],[(0, .sl 59)]⟩) Tryz.f133 zx (by kernel_rfl) (by kernel_rfl) fun x=>by kernel_rfl
theorem iX(qb:List ze->Option (List ze))(hs:zm Tryz.prog (Np qb)):zm Tryz.prog (Np (Ep qb)):=
 okC (A:=⟨[LQ qQ,Np qb],[],[],0,[(3,⟨[8],⟨[.int .i64],[(0, .sl 59)]⟩,[0,2,7],[],[0],0,[],⟨[],[(0, .sl 59)]⟩,[0]⟩)],[],[]⟩) (exS:=⟨[.sl 59],[]⟩) Tryz.f88 (memC D9 (memC hs zx)) (by kernel_rfl) (by kernel_rfl) fun x=>by kernel_rfl
theorem yM:zm Tryz.prog (Np qb):=
 zm.recE (I:=I) (P:=Tryz.prog) (f:=88) (inS:=⟨[.sl 59],[]⟩) (cst:=[]) (outS:=⟨[.sl 59],[]⟩) (k:=0) (Ep) (by kernel_rfl) (fun S h=>iX S h)
theorem DN:zm Tryz.prog (VE lg):=
 okC (A:=⟨[uj ZG,VN Vj,Np qb],[],[],0,[(6,⟨[6],⟨[.int .i64],[]⟩,[1,2,3,5,7],[0],[],0,[6],⟨[.int .i64],[]⟩,[]⟩),(8,⟨[7],⟨[.int .i64],[]⟩,[1,2,3,5,6],[0],[],2,[7],⟨[.int .i64],[]⟩,[]⟩)],[],[]⟩) (exS:=⟨[.sl 59, .int .i64],[]⟩) Tryz.f62 (memC Em (memC nZ (memC yM zx))) (by kernel_rfl) (by kernel_rfl) fun x=>by kernel_rfl
theorem JY(Zx:zh->Option (List zB))(hs:zm Tryz.prog (yl Zx)):zm Tryz.prog (yl (Aq Zx)):=
 okC (A:=⟨[VE lg,yl Zx],[(4,[1])],[],0,[(7,⟨[4,24],⟨[.own 1208, .int .i64],[(1208, .sl 24)]⟩,[2,22,23],[],[],0,[4],⟨[.own 1208],[(1208, .sl 24)]⟩,[1208]⟩)],[],[]⟩) (exS:=⟨[.sl 24],[]⟩) Tryz.f33 (memC DN (memC hs zx)) (by kernel_rfl) (by kernel_rfl) fun x=>by kernel_rfl
theorem SF:zm Tryz.prog (yl Zx):=
 zm.recE (I:=I) (P:=Tryz.prog) (f:=33) (inS:=⟨[.val 27],[]⟩) (cst:=[]) (outS:=⟨[.sl 24],[]⟩) (k:=0) (Aq) (by kernel_rfl) (fun S h=>JY S h)
theorem JZ:zm Tryz.prog (vM Tt):=
 okC (A:=⟨[VA Ze,yl Zx],[],[],0,[],[],[]⟩) (exS:=⟨[.sl 24, .int .i64],[]⟩) Tryz.f10 (memC GH (memC SF zx)) (by kernel_rfl) (by kernel_rfl) fun x=>by kernel_rfl
theorem EY(Di:zh->Option Int)(hs:zm Tryz.prog (Wu Di)):zm Tryz.prog (Wu (Cz Di)):=
 okC (A:=⟨[ol qP,Wu Di],[],[],0,[(7,⟨[3,4],⟨[.int .i64, .int .i64],[]⟩,[1,2],[0],[],0,[3],⟨[.int .i64],[]⟩,[]⟩)],[(13,⟨[3,6],⟨[.int .i64, .int .i64],[]⟩,[4],[],[],0,[],⟨[],[]⟩,[]⟩)],[]⟩) (exS:=⟨[.int .i64],[]⟩) Tryz.f63 (memC MF (memC hs zx)) (by kernel_rfl) (by kernel_rfl) fun x=>by kernel_rfl
theorem nY:zm Tryz.prog (Wu Di):=
 zm.recE (I:=I) (P:=Tryz.prog) (f:=63) (inS:=⟨[.val 27],[]⟩) (cst:=[]) (outS:=⟨[.int .i64],[]⟩) (k:=0) (Cz) (by kernel_rfl) (fun S h=>EY S h)
theorem tF:zm Tryz.prog (bz Ci):=
 okC (A:=⟨[],[],[],0,[],[],[]⟩) (exS:=⟨[.int .u8],[]⟩) Tryz.f149 zx (by kernel_rfl) (by kernel_rfl) fun x=>by kernel_rfl
theorem vO:zm Tryz.prog (wF Qw):=
 okC (A:=⟨[bz Ci],[],[],0,[(3,⟨[4],⟨[.int .i64],[(0, .sl 5)]⟩,[2,3],[],[0],0,[],⟨[],[(0, .sl 5)]⟩,[0]⟩)],[],[]⟩) (exS:=⟨[.str],[]⟩) Tryz.f97 (memC tF zx) (by kernel_rfl) (by kernel_rfl) fun x=>by kernel_rfl
theorem I4:zm Tryz.prog (vN Cu):=
 okC (A:=⟨[wF Qw],[],[],0,[(4,⟨[3],⟨[.int .i64],[]⟩,[0],[],[],0,[],⟨[],[]⟩,[]⟩)],[],[]⟩) (exS:=⟨[.bool],[]⟩) Tryz.f59 (memC vO zx) (by kernel_rfl) (by kernel_rfl) fun x=>by kernel_rfl
theorem R5(qo:List ze->Option (List zf))(hs:zm Tryz.prog (Mq qo)):zm Tryz.prog (Mq (uz qo)):=
 okC (A:=⟨[kz QX,Mq qo],[(5,[6]),(9,[3])],[],0,[(3,⟨[3,4],⟨[.own 1209, .int .i64],[(1209, .sl 57)]⟩,[0,2],[],[],0,[3],⟨[.own 1209],[(1209, .sl 57)]⟩,[1209]⟩)],[(4,⟨[3,4],⟨[.own 1311, .int .i64],[(1311, .sl 57)]⟩,[],[],[],0,[],⟨[],[]⟩,[]⟩)],[]⟩) (exS:=⟨[.sl 57],[]⟩) Tryz.f100 (memC OG (memC hs zx)) (by kernel_rfl) (by kernel_rfl) fun x=>by kernel_rfl
theorem IP:zm Tryz.prog (Mq qo):=
 zm.recE (I:=I) (P:=Tryz.prog) (f:=100) (inS:=⟨[.sl 59],[]⟩) (cst:=[]) (outS:=⟨[.sl 57],[]⟩) (k:=0) (uz) (by kernel_rfl) (fun S h=>R5 S h)
theorem P5(Qi:List ze×Int->Option Bool)(hs:zm Tryz.prog (Jv Qi)):zm Tryz.prog (Jv (rz Qi)):=
 okC (A:=⟨[kz QX,Jv Qi],[],[],0,[(2,⟨[5],⟨[.int .i64],[]⟩,[0,1],[],[],0,[],⟨[],[]⟩,[]⟩)],[],[]⟩) (exS:=⟨[.bool],[]⟩) Tryz.f150 (memC OG (memC hs zx)) (by kernel_rfl) (by kernel_rfl) fun x=>by kernel_rfl
theorem K4:zm Tryz.prog (Jv Qi):=
 zm.recE (I:=I) (P:=Tryz.prog) (f:=150) (inS:=⟨[.sl 59, .int .u8],[]⟩) (cst:=[]) (outS:=⟨[.bool],[]⟩) (k:=0) (rz) (by kernel_rfl) (fun S h=>P5 S h)
theorem iZ:zm Tryz.prog (yN Eu):=
 okC (A:=⟨[ol qP,Mq qo,Jv Qi],[],[],0,[],[],[]⟩) (exS:=⟨[.int .i64],[]⟩) Tryz.f98 (memC MF (memC IP (memC K4 zx))) (by kernel_rfl) (by kernel_rfl) fun x=>by kernel_rfl
theorem jZ:zm Tryz.prog (AO Uj):=
 okC (A:=⟨[],[],[],0,[(2,⟨[3],⟨[.int .i64],[]⟩,[0],[],[],0,[],⟨[],[]⟩,[]⟩)],[],[]⟩) (exS:=⟨[.bool],[]⟩) Tryz.f186 zx (by kernel_rfl) (by kernel_rfl) fun x=>by kernel_rfl
theorem Q9:zm Tryz.prog (QK zZ):=
 okC (A:=⟨[],[],[],0,[],[],[]⟩) (exS:=⟨[.bool],[]⟩) Tryz.f117 zx (by kernel_rfl) (by kernel_rfl) fun x=>by kernel_rfl
theorem tY:zm Tryz.prog (fM Xt):=
 okC (A:=⟨[QK zZ],[],[],0,[],[],[]⟩) (exS:=⟨[.bool],[]⟩) Tryz.f187 (memC Q9 zx) (by kernel_rfl) (by kernel_rfl) fun x=>by kernel_rfl
theorem wz:zm Tryz.prog (wu qz):=
 okC (A:=⟨[],[],[],0,[],[],[]⟩) (exS:=⟨[.bool],[]⟩) Tryz.f226 zx (by kernel_rfl) (by kernel_rfl) fun x=>by kernel_rfl
theorem Q8:zm Tryz.prog (oh zT):=
 okC (A:=⟨[],[],[],0,[],[],[]⟩) (exS:=⟨[.int .u8],[]⟩) Tryz.f261 zx (by kernel_rfl) (by kernel_rfl) fun x=>by kernel_rfl
theorem PG:zm Tryz.prog (nz Qh):=
 okC (A:=⟨[oh zT,wu qz],[],[],0,[(1,⟨[1],⟨[.int .i64],[]⟩,[0,4],[],[],0,[1],⟨[.int .i64],[]⟩,[]⟩)],[],[]⟩) (exS:=⟨[.int .i64],[]⟩) Tryz.f227 (memC Q8 (memC wz zx)) (by kernel_rfl) (by kernel_rfl) fun x=>by kernel_rfl
theorem RN:zm Tryz.prog (gF oo):=
 okC (A:=⟨[],[(1,[0])],[],0,[],[],[]⟩) (exS:=⟨[.str],[]⟩) Tryz.f286 zx (by kernel_rfl) (by kernel_rfl) fun x=>by kernel_rfl
theorem uX:zm Tryz.prog (EM Rj):=
 okC (A:=⟨[QK zZ,bz Ci],[],[],0,[],[],[]⟩) (exS:=⟨[.int .i64],[]⟩) Tryz.f287 (memC Q9 (memC tF zx)) (by kernel_rfl) (by kernel_rfl) fun x=>by kernel_rfl
theorem wY:zm Tryz.prog (jM Xy):=
 okC (A:=⟨[gF oo],[(4,[2]),(6,[8]),(8,[13]),(9,[18])],[],0,[],[],[]⟩) (exS:=⟨[.str],[]⟩) Tryz.f288 (memC RN zx) (by kernel_rfl) (by kernel_rfl) fun x=>by kernel_rfl
theorem BA:zm Tryz.prog (Gv qd):=
 okC (A:=⟨[gF oo,EM Rj,oh zT,wu qz,jM Xy],[],[],0,[(7,⟨[6,7],⟨[.int .i64, .int .i64],[]⟩,[0,1,4,5],[],[],0,[6,7],⟨[.int .i64, .int .i64],[]⟩,[]⟩)],[(12,⟨[7],⟨[.int .i64],[]⟩,[6],[],[],0,[],⟨[],[]⟩,[]⟩)],[]⟩) (exS:=⟨[.str, .int .i64],[]⟩) Tryz.f262 (memC RN (memC uX (memC Q8 (memC wz (memC wY zx))))) (by kernel_rfl) (by kernel_rfl) fun x=>by kernel_rfl
theorem M4:zm Tryz.prog (fO eu):=
 okC (A:=⟨[Gv qd],[],[],0,[(4,⟨[1],⟨[.int .i64],[(0, .row 57),(1, .row 57)]⟩,[0,4,6,7],[],[0,1],0,[1],⟨[.int .i64],[(0, .row 57),(1, .row 57)]⟩,[0,1]⟩)],[],[]⟩) (exS:=⟨[.optr 0, .int .i64],[(0, .row 57)]⟩) Tryz.f228 (memC BA zx) (by kernel_rfl) (by kernel_rfl) fun x=>by kernel_rfl
theorem JP:zm Tryz.prog (fG Yp):=
 okC (A:=⟨[bz Ci],[],[],0,[],[],[]⟩) (exS:=⟨[.bool],[]⟩) Tryz.f165 (memC tF zx) (by kernel_rfl) (by kernel_rfl) fun x=>by kernel_rfl
theorem LP:zm Tryz.prog (TG Yl):=
 okC (A:=⟨[fG Yp,QK zZ],[],[],0,[],[],[]⟩) (exS:=⟨[.bool],[]⟩) Tryz.f116 (memC JP (memC Q9 zx)) (by kernel_rfl) (by kernel_rfl) fun x=>by kernel_rfl
theorem Dv:zm Tryz.prog (Nq Zt):=
 okC (A:=⟨[oh zT],[],[],0,[],[],[]⟩) (exS:=⟨[.bool],[]⟩) Tryz.f229 (memC Q8 zx) (by kernel_rfl) (by kernel_rfl) fun x=>by kernel_rfl
theorem sF:zm Tryz.prog (az Bi):=
 okC (A:=⟨[TG Yl,Nq Zt,Gv qd],[],[],0,[(2,⟨[1,6],⟨[.int .i64, .str],[]⟩,[0],[],[],0,[],⟨[],[]⟩,[]⟩)],[],[]⟩) (exS:=⟨[.str, .int .i64],[]⟩) Tryz.f230 (memC LP (memC Dv (memC BA zx))) (by kernel_rfl) (by kernel_rfl) fun x=>by kernel_rfl
theorem KP:zm Tryz.prog (SG qH):=
 okC (A:=⟨[oh zT,fG Yp,Nq Zt],[],[],0,[],[],[]⟩) (exS:=⟨[.bool],[]⟩) Tryz.f231 (memC Q8 (memC JP (memC Dv zx))) (by kernel_rfl) (by kernel_rfl) fun x=>by kernel_rfl
theorem l7:zm Tryz.prog (mP vz):=
 okC (A:=⟨[oh zT,QK zZ],[],[],0,[],[(4,⟨[1],⟨[.int .i64],[]⟩,[0],[],[],0,[],⟨[],[]⟩,[]⟩),(6,⟨[1],⟨[.int .i64],[]⟩,[],[],[],0,[],⟨[],[]⟩,[]⟩)],[]⟩) (exS:=⟨[.bool],[]⟩) Tryz.f232 (memC Q8 (memC Q9 zx)) (by kernel_rfl) (by kernel_rfl) fun x=>by kernel_rfl
theorem O4:zm Tryz.prog (iO Xl):=
 okC (A:=⟨[oh zT,QK zZ],[],[],0,[(1,⟨[1],⟨[.int .i64],[]⟩,[0,4],[],[],0,[1],⟨[.int .i64],[]⟩,[]⟩)],[],[]⟩) (exS:=⟨[.int .i64],[]⟩) Tryz.f289 (memC Q8 (memC Q9 zx)) (by kernel_rfl) (by kernel_rfl) fun x=>by kernel_rfl
theorem Y7:zm Tryz.prog (sP Cv):=
 okC (A:=⟨[oh zT,iO Xl,QK zZ],[],[],0,[],[(4,⟨[1],⟨[.int .i64],[]⟩,[0],[],[],0,[],⟨[],[]⟩,[]⟩),(9,⟨[1,7],⟨[.int .i64, .bool],[]⟩,[],[],[],0,[],⟨[],[]⟩,[]⟩),(15,⟨[1,7,9],⟨[.int .i64, .bool, .int .i64],[]⟩,[],[],[],0,[],⟨[],[]⟩,[]⟩),(18,⟨[1,7],⟨[.int .i64, .bool],[]⟩,[],[],[],0,[],⟨[],[]⟩,[]⟩)],[]⟩) (exS:=⟨[.int .i64, .bool],[]⟩) Tryz.f263 (memC Q8 (memC O4 (memC Q9 zx))) (by kernel_rfl) (by kernel_rfl) fun x=>by kernel_rfl
theorem K9:zm Tryz.prog (TQ Mv):=
 okC (A:=⟨[oh zT,QK zZ],[],[],0,[(5,⟨[3,5],⟨[.str, .int .i64],[]⟩,[4],[],[],0,[3,5],⟨[.str, .int .i64],[]⟩,[]⟩),(10,⟨[3,4,5],⟨[.str, .int .i64, .int .i64],[]⟩,[],[],[],2,[3,4,5],⟨[.str, .int .i64, .int .i64],[]⟩,[]⟩),(20,⟨[5,8],⟨[.int .i64, .int .i64],[]⟩,[4],[],[],4,[8],⟨[.int .i64],[]⟩,[]⟩),(28,⟨[9,10],⟨[.int .i64, .int .i64],[]⟩,[4],[],[],6,[9],⟨[.int .i64],[]⟩,[]⟩),(31,⟨[4,9],⟨[.int .i64, .int .i64],[]⟩,[],[],[],8,[9],⟨[.int .i64],[]⟩,[]⟩)],[(5,⟨[3,4,5],⟨[.str, .int .i64, .int .i64],[]⟩,[0,6],[],[],0,[],⟨[],[]⟩,[]⟩),(14,⟨[3,4,5],⟨[.str, .int .i64, .int .i64],[]⟩,[],[],[],0,[],⟨[],[]⟩,[]⟩),(19,⟨[4,5],⟨[.int .i64, .int .i64],[]⟩,[3,7],[],[],0,[],⟨[],[]⟩,[]⟩),(25,⟨[4,8],⟨[.int .i64, .int .i64],[]⟩,[],[],[],0,[],⟨[],[]⟩,[]⟩),(26,⟨[4],⟨[.int .i64],[]⟩,[3],[],[],0,[],⟨[],[]⟩,[]⟩)],[]⟩) (exS:=⟨[.int .i64],[]⟩) Tryz.f264 (memC Q8 (memC Q9 zx)) (by kernel_rfl) (by kernel_rfl) fun x=>by kernel_rfl
theorem K7:zm Tryz.prog (fP Av):=
 okC (A:=⟨[sP Cv,TQ Mv,SG qH,az Bi,oh zT],[],[],0,[],[(9,⟨[6],⟨[.int .i64],[(0, .row 57),(1, .row 57)]⟩,[4,8],[],[0,1],0,[],⟨[],[]⟩,[]⟩)],[]⟩) (exS:=⟨[.optr 0, .int .i64],[(0, .row 57)]⟩) Tryz.f233 (memC Y7 (memC K9 (memC KP (memC sF (memC Q8 zx))))) (by kernel_rfl) (by kernel_rfl) fun x=>by kernel_rfl
theorem pX:zm Tryz.prog (xL Xo):=
 okC (A:=⟨[],[],[],0,[],[],[]⟩) (exS:=⟨[.bool],[]⟩) Tryz.f225 zx (by kernel_rfl) (by kernel_rfl) fun x=>by kernel_rfl
theorem wO:zm Tryz.prog (yF Qv):=
 okC (A:=⟨[wF Qw],[],[],0,[],[],[]⟩) (exS:=⟨[.bool],[]⟩) Tryz.f152 (memC vO zx) (by kernel_rfl) (by kernel_rfl) fun x=>by kernel_rfl
theorem rX:zm Tryz.prog (yL Yo):=
 okC (A:=⟨[Nq Zt,Gv qd],[],[],0,[(1,⟨[1],⟨[.int .i64],[]⟩,[0,4,5],[0],[],0,[1],⟨[.int .i64],[]⟩,[]⟩)],[],[]⟩) (exS:=⟨[.optr 0, .int .i64],[(0, .row 57)]⟩) Tryz.f290 (memC Dv (memC BA zx)) (by kernel_rfl) (by kernel_rfl) fun x=>by kernel_rfl
theorem l8:zm Tryz.prog (SQ OA):=
 okC (A:=⟨[],[],[],0,[],[],[]⟩) (exS:=⟨[.bool],[]⟩) Tryz.f291 zx (by kernel_rfl) (by kernel_rfl) fun x=>by kernel_rfl
theorem nX:zm Tryz.prog (wL Bt):=
 okC (A:=⟨[nz Qh,wu qz,yL Yo,SQ OA,Nq Zt,Gv qd],[],[],0,[(3,⟨[1],⟨[.int .i64],[(0, .row 57),(1, .row 57)]⟩,[0,4,6],[],[0,1],0,[1],⟨[.int .i64],[(0, .row 57),(1, .row 57)]⟩,[0,1]⟩)],[],[]⟩) (exS:=⟨[.optr 0, .int .i64],[(0, .row 57)]⟩) Tryz.f265 (memC PG (memC wz (memC rX (memC l8 (memC Dv (memC BA zx)))))) (by kernel_rfl) (by kernel_rfl) fun x=>by kernel_rfl
theorem uY:zm Tryz.prog (gM Yt):=
 okC (A:=⟨[az Bi,oh zT,yF Qv,nz Qh,wL Bt],[],[],0,[],[(8,⟨[],⟨[],[(0, .row 57)]⟩,[4,6,7],[],[0],0,[],⟨[],[]⟩,[]⟩)],[]⟩) (exS:=⟨[.optr 0, .int .i64],[(0, .row 57)]⟩) Tryz.f234 (memC sF (memC Q8 (memC wO (memC PG (memC nX zx))))) (by kernel_rfl) (by kernel_rfl) fun x=>by kernel_rfl
theorem vY:zm Tryz.prog (iM mo):=
 okC (A:=⟨[],[],[],0,[],[],[]⟩) (exS:=⟨[.int .u8],[]⟩) Tryz.f235 zx (by kernel_rfl) (by kernel_rfl) fun x=>by kernel_rfl
theorem tX:zm Tryz.prog (BM Dt):=
 okC (A:=⟨[wu qz,nz Qh,fO eu,TG Yl,Nq Zt,az Bi,SG qH,mP vz,fP Av,xL Xo,gM Yt,iM mo],[],[],0,[],[],[]⟩) (exS:=⟨[.optr 0, .int .i64],[(0, .row 57)]⟩) Tryz.f198 (memC wz (memC PG (memC M4 (memC LP (memC Dv (memC sF (memC KP (memC l7 (memC K7 (memC pX (memC uY (memC vY zx)))))))))))) (by kernel_rfl) (by kernel_rfl) fun x=>by kernel_rfl
theorem kZ:zm Tryz.prog (BO Qx):=
 okC (A:=⟨[BM Dt],[(1,[1])],[],0,[],[],[]⟩) (exS:=⟨[.bool],[]⟩) Tryz.f188 (memC tX zx) (by kernel_rfl) (by kernel_rfl) fun x=>by kernel_rfl
theorem rY:zm Tryz.prog (dM Wt):=
 okC (A:=⟨[AO Uj,fM Xt,BO Qx],[],[],0,[],[(6,⟨[8],⟨[.bool],[(1, .row 57)]⟩,[1,3,7],[0],[1],0,[],⟨[],[]⟩,[]⟩),(13,⟨[56],⟨[.bool],[(1, .row 57)]⟩,[],[],[1],0,[],⟨[],[]⟩,[]⟩),(21,⟨[90],⟨[.bool],[(1, .row 57)]⟩,[],[],[1],0,[],⟨[],[]⟩,[]⟩),(26,⟨[148],⟨[.bool],[]⟩,[],[1],[],0,[],⟨[],[]⟩,[]⟩)],[]⟩) (exS:=⟨[.bool],[]⟩) Tryz.f151 (memC jZ (memC tY (memC kZ zx))) (by kernel_rfl) (by kernel_rfl) fun x=>by kernel_rfl
theorem lZ:zm Tryz.prog (TN Wl):=
 okC (A:=⟨[dM Wt,yF Qv],[],[],0,[(4,⟨[3],⟨[.int .i64],[]⟩,[0],[],[],0,[],⟨[],[]⟩,[]⟩)],[(12,⟨[4],⟨[.int .i64],[]⟩,[3],[],[],0,[],⟨[],[]⟩,[]⟩),(14,⟨[],⟨[],[]⟩,[3],[],[],0,[],⟨[],[]⟩,[]⟩)],[]⟩) (exS:=⟨[.int .i64],[]⟩) Tryz.f99 (memC rY (memC wO zx)) (by kernel_rfl) (by kernel_rfl) fun x=>by kernel_rfl
theorem R6(qE:List ze->Option Bool)(hs:zm Tryz.prog (Fv qE)):zm Tryz.prog (Fv (JA qE)):=
 okC (A:=⟨[Fv qE],[],[],0,[(2,⟨[3],⟨[.int .i64],[]⟩,[0],[],[],0,[],⟨[],[]⟩,[]⟩)],[],[]⟩) (exS:=⟨[.bool],[]⟩) Tryz.f101 (memC hs zx) (by kernel_rfl) (by kernel_rfl) fun x=>by kernel_rfl
theorem I7:zm Tryz.prog (Fv qE):=
 zm.recE (I:=I) (P:=Tryz.prog) (f:=101) (inS:=⟨[.sl 59],[]⟩) (cst:=[]) (outS:=⟨[.bool],[]⟩) (k:=0) (JA) (by kernel_rfl) (fun S h=>R6 S h)
theorem J7:zm Tryz.prog (eP yu):=
 okC (A:=⟨[],[],[],0,[(1,⟨[0],⟨[.sl 59],[]⟩,[2],[],[],0,[0],⟨[.sl 59],[]⟩,[]⟩),(3,⟨[0],⟨[.sl 59],[]⟩,[2],[],[],2,[0],⟨[.sl 59],[]⟩,[]⟩)],[],[]⟩) (exS:=⟨[.sl 59],[]⟩) Tryz.f102 zx (by kernel_rfl) (by kernel_rfl) fun x=>by kernel_rfl
theorem G6:zm Tryz.prog (eO cu):=
 okC (A:=⟨[],[],[],0,[],[],[]⟩) (exS:=⟨[.bool],[]⟩) Tryz.f103 zx (by kernel_rfl) (by kernel_rfl) fun x=>by kernel_rfl
theorem F6:zm Tryz.prog (dO bu):=
 okC (A:=⟨[yN Eu,Mq qo,TN Wl,Fv qE,eP yu,eO cu],[],[],0,[(6,⟨[5],⟨[.int .i64],[]⟩,[1],[],[],0,[],⟨[],[]⟩,[]⟩)],[],[]⟩) (exS:=⟨[.bool],[]⟩) Tryz.f60 (memC iZ (memC IP (memC lZ (memC I7 (memC J7 (memC G6 zx)))))) (by kernel_rfl) (by kernel_rfl) fun x=>by kernel_rfl
theorem gZ:zm Tryz.prog (xN Dp):=
 okC (A:=⟨[vN Cu,dO bu],[],[],0,[],[],[]⟩) (exS:=⟨[.int .i64],[]⟩) Tryz.f30 (memC I4 (memC F6 zx)) (by kernel_rfl) (by kernel_rfl) fun x=>by kernel_rfl
theorem X3:zm Tryz.prog (tN Bu):=
 okC (A:=⟨[],[],[],0,[],[],[]⟩) (exS:=⟨[.bool],[]⟩) Tryz.f107 zx (by kernel_rfl) (by kernel_rfl) fun x=>by kernel_rfl
theorem D6:zm Tryz.prog (cO Dm):=
 okC (A:=⟨[tN Bu],[],[],0,[],[],[]⟩) (exS:=⟨[.bool],[]⟩) Tryz.f65 (memC X3 zx) (by kernel_rfl) (by kernel_rfl) fun x=>by kernel_rfl
theorem U7(ZC:zh->Option Bool)(hs:zm Tryz.prog (Ov ZC)):zm Tryz.prog (Ov (NA ZC)):=
 okC (A:=⟨[xN Dp,cO Dm,Ov ZC],[],[],0,[(13,⟨[3],⟨[.int .i64],[]⟩,[],[],[],1,[],⟨[],[]⟩,[]⟩)],[(10,⟨[55],⟨[.bool],[]⟩,[1],[0],[],0,[],⟨[],[]⟩,[]⟩)],[]⟩) (exS:=⟨[.bool],[]⟩) Tryz.f64 (memC gZ (memC D6 (memC hs zx))) (by kernel_rfl) (by kernel_rfl) fun x=>by kernel_rfl
theorem X7:zm Tryz.prog (Ov ZC):=
 zm.recE (I:=I) (P:=Tryz.prog) (f:=64) (inS:=⟨[.val 27],[]⟩) (cst:=[]) (outS:=⟨[.bool],[]⟩) (k:=0) (NA) (by kernel_rfl) (fun S h=>U7 S h)
theorem K8:zm Tryz.prog (FQ Pv):=
 okC (A:=⟨[Rp qj,Wu Di,Ov ZC],[],[],0,[],[],[]⟩) (exS:=⟨[.bool],[]⟩) Tryz.f34 (memC PN (memC nY (memC X7 zx))) (by kernel_rfl) (by kernel_rfl) fun x=>by kernel_rfl
theorem d9:zm Tryz.prog (YQ slices_Index_string):=
 okC (A:=⟨[],[],[],0,[(2,⟨[8],⟨[.int .i64],[]⟩,[0,1,7],[],[],0,[],⟨[],[]⟩,[]⟩)],[],[]⟩) (exS:=⟨[.int .i64],[]⟩) Tryz.f175 zx (by kernel_rfl) (by kernel_rfl) fun x=>by kernel_rfl
theorem zgd:zm Tryz.prog (dQ slices_Contains_string):=
 okC (A:=⟨[YQ slices_Index_string],[],[],0,[],[],[]⟩) (exS:=⟨[.bool],[]⟩) Tryz.f134 (memC d9 zx) (by kernel_rfl) (by kernel_rfl) fun x=>by kernel_rfl
theorem CP:zm Tryz.prog (GG Q3):=
 okC (A:=⟨[dQ slices_Contains_string,Gq ZJ,ZV strings_IndexByte],[(1,[0])],[],0,[],[],[]⟩) (exS:=⟨[.bool],[]⟩) Tryz.f92 (memC zgd (memC lu (memC qi zx))) (by kernel_rfl) (by kernel_rfl) fun x=>by kernel_rfl
theorem AP:zm Tryz.prog (CG Wj):=
 okC (A:=⟨[],[],[],0,[(2,⟨[7],⟨[.int .i64],[]⟩,[5,6],[],[],0,[],⟨[],[]⟩,[]⟩)],[],[]⟩) (exS:=⟨[.int .i64],[]⟩) Tryz.f113 zx (by kernel_rfl) (by kernel_rfl) fun x=>by kernel_rfl
theorem BP:zm Tryz.prog (EG Q5):=
 okC (A:=⟨[CG Wj],[(1,[1])],[],0,[],[],[]⟩) (exS:=⟨[.int .i64],[]⟩) Tryz.f121 (memC AP zx) (by kernel_rfl) (by kernel_rfl) fun x=>by kernel_rfl
theorem EZ:zm Tryz.prog (rM Tj):=
 okC (A:=⟨[Ju ZZ,GG Q3,EG Q5],[],[],0,[(4,⟨[23],⟨[.int .i64],[]⟩,[21,22],[],[],0,[],⟨[],[]⟩,[]⟩)],[(17,⟨[57],⟨[.bool],[]⟩,[4,23],[1],[],0,[],⟨[],[]⟩,[]⟩),(19,⟨[23],⟨[.int .i64],[]⟩,[],[],[],0,[],⟨[],[]⟩,[]⟩)],[]⟩) (exS:=⟨[.bool],[]⟩) Tryz.f80 (memC Ez (memC CP (memC BP zx))) (by kernel_rfl) (by kernel_rfl) fun x=>by kernel_rfl
theorem FZ:zm Tryz.prog (sM vo):=
 okC (A:=⟨[],[],[],0,[],[],[]⟩) (exS:=⟨[.bool],[]⟩) Tryz.f81 zx (by kernel_rfl) (by kernel_rfl) fun x=>by kernel_rfl
theorem UX:zm Tryz.prog (nL Jl):=
 okC (A:=⟨[Ju ZZ,rM Tj,sM vo],[],[],0,[],[],[]⟩) (exS:=⟨[.bool],[]⟩) Tryz.f46 (memC Ez (memC EZ (memC FZ zx))) (by kernel_rfl) (by kernel_rfl) fun x=>by kernel_rfl
theorem M9:zm Tryz.prog (VQ qw):=
 okC (A:=⟨[nL Jl],[],[],0,[],[],[]⟩) (exS:=⟨[.bool],[]⟩) Tryz.f45 (memC UX zx) (by kernel_rfl) (by kernel_rfl) fun x=>by kernel_rfl
theorem zgC:zm Tryz.prog (jQ Z4):=
 okC (A:=⟨[VQ qw],[],[],0,[(2,⟨[8],⟨[.int .i64],[]⟩,[0,1,7],[],[],0,[],⟨[],[]⟩,[]⟩)],[],[]⟩) (exS:=⟨[.int .i64],[]⟩) Tryz.f79 (memC M9 zx) (by kernel_rfl) (by kernel_rfl) fun x=>by kernel_rfl
theorem zfg:zm Tryz.prog (wQ Zj):=
 okC (A:=⟨[jQ Z4],[],[],0,[],[],[]⟩) (exS:=⟨[.bool],[]⟩) Tryz.f44 (memC zgC zx) (by kernel_rfl) (by kernel_rfl) fun x=>by kernel_rfl
theorem xP:zm Tryz.prog (mG Z8):=
 okC (A:=⟨[wQ Zj,Ju ZZ],[],[],0,[],[],[]⟩) (exS:=⟨[.int .i64],[]⟩) Tryz.f16 (memC zfg (memC Ez zx)) (by kernel_rfl) (by kernel_rfl) fun x=>by kernel_rfl
theorem TF:zm Tryz.prog (Bz mh):=
 okC (A:=⟨[mG Z8,VA Ze],[],[],0,[],[],[]⟩) (exS:=⟨[.int .i64],[]⟩) Tryz.f36 (memC xP (memC GH zx)) (by kernel_rfl) (by kernel_rfl) fun x=>by kernel_rfl
theorem D5:zm Tryz.prog (oO ll):=
 okC (A:=⟨[],[],[],2,[],[],[]⟩) (exS:=⟨[.bool],[(0, .row 3)]⟩) Tryz.f38 zx (by kernel_rfl) (by kernel_rfl) fun x=>by kernel_rfl
theorem IY(Z0:(zh×Int)×Int×List Bool->Option (Bool×Int))(hs:zm Tryz.prog (Yu Z0)):zm Tryz.prog (Yu (sj Z0)):=
 okC (A:=⟨[oO ll,Yu Z0],[],[],2,[(14,⟨[7,8,45],⟨[.bool, .bool, .int .i64],[(0, .row 3)]⟩,[1,2,3,6,43,44],[2],[0],1,[7,8],⟨[.bool, .bool],[(0, .row 3)]⟩,[0]⟩)],[],[]⟩) (exS:=⟨[.bool],[(0, .row 3)]⟩) Tryz.f37 (memC D5 (memC hs zx)) (by kernel_rfl) (by kernel_rfl) fun x=>by kernel_rfl
theorem HZ:zm Tryz.prog (Yu Z0):=
 zm.recE (I:=I) (P:=Tryz.prog) (f:=37) (inS:=⟨[.val 27, .int .i64, .clo 38 [0,1]],[(0, .row 3),(1, .row 30)]⟩) (cst:=[1]) (outS:=⟨[.bool],[(0, .row 3)]⟩) (k:=0) (sj) (by kernel_rfl) (fun S h=>IY S h)
theorem KO:zm Tryz.prog (lF Qk):=
 okC (A:=⟨[Bz mh,yl Zx,Yu Z0],[],[],0,[],[],[]⟩) (exS:=⟨[.bool, .int .i64],[]⟩) Tryz.f12 (memC TF (memC SF (memC HZ zx))) (by kernel_rfl) (by kernel_rfl) fun x=>by kernel_rfl
theorem FO:zm Tryz.prog (jF qy):=
 okC (A:=⟨[Zl strings_HasPrefix],[],[],0,[],[],[]⟩) (exS:=⟨[.int .i64],[]⟩) Tryz.f111 (memC Zr zx) (by kernel_rfl) (by kernel_rfl) fun x=>by kernel_rfl
theorem nG:zm Tryz.prog (IA Zv):=
 okC (A:=⟨[Tp qh,BG Ou,RL Fy],[(2,[2]),(3,[1]),(5,[1])],[],1,[],[],[]⟩) (exS:=⟨[.own 1],[(1, .sl 5)]⟩) Tryz.f159 (memC Bv (memC yO (memC AX zx))) (by kernel_rfl) (by kernel_rfl) fun x=>by kernel_rfl
theorem uZ:zm Tryz.prog (bN Nu):=
 okC (A:=⟨[Kz lh,Tp qh,IA Zv],[(6,[2])],[],0,[(2,⟨[0,11],⟨[.own 1314, .int .i64],[(1314, .sl 5)]⟩,[1,2,6,10],[],[],0,[0],⟨[.own 1314],[(1314, .sl 5)]⟩,[1314]⟩)],[(8,⟨[0,11],⟨[.own 1416, .int .i64],[(1416, .sl 5)]⟩,[],[],[],0,[],⟨[],[]⟩,[]⟩)],[]⟩) (exS:=⟨[.own 0],[(0, .sl 5)]⟩) Tryz.f110 (memC NF (memC Bv (memC nG zx))) (by kernel_rfl) (by kernel_rfl) fun x=>by kernel_rfl
theorem EN:zm Tryz.prog (WE Ml):=
 okC (A:=⟨[ZV strings_IndexByte,jF qy,bN Nu],[],[],0,[],[],[]⟩) (exS:=⟨[.str, .int .i64],[]⟩) Tryz.f67 (memC qi (memC FO (memC uZ zx))) (by kernel_rfl) (by kernel_rfl) fun x=>by kernel_rfl
theorem N7:zm Tryz.prog (iP qC):=
 okC (A:=⟨[],[],[],2,[],[],[]⟩) (exS:=⟨[],[(0, .row 3),(1, .sl 5)]⟩) Tryz.f114 zx (by kernel_rfl) (by kernel_rfl) fun x=>by kernel_rfl
theorem vZ:zm Tryz.prog (dN Fu):=
 okC (A:=⟨[CG Wj,iP qC],[(1,[1]),(7,[200000])],[],0,[(12,⟨[9,26],⟨[.int .i64, .int .i64],[(1, .sl 5),(2, .row 3)]⟩,[0,6,7,8],[],[1,2],0,[],⟨[],[(1, .sl 5),(2, .row 3)]⟩,[1,2]⟩),(23,⟨[0],⟨[.int .i64],[(1, .sl 5),(2, .row 3)]⟩,[6,7,8],[],[1,2],2,[],⟨[],[(1, .sl 5),(2, .row 3)]⟩,[1,2]⟩)],[(7,⟨[0],⟨[.int .i64],[]⟩,[5],[],[],0,[],⟨[],[]⟩,[]⟩),(17,⟨[9],⟨[.int .i64],[(1, .sl 5),(2, .row 3)]⟩,[10,26],[],[1,2],0,[],⟨[],[]⟩,[]⟩),(20,⟨[9,26],⟨[.int .i64, .int .i64],[(1, .sl 5),(2, .row 3)]⟩,[],[],[1,2],0,[],⟨[],[]⟩,[]⟩),(27,⟨[],⟨[],[(1, .sl 5),(2, .row 3)]⟩,[6,7],[],[1,2],0,[],⟨[],[]⟩,[]⟩)],[]⟩) (exS:=⟨[.str, .int .i64],[]⟩) Tryz.f69 (memC AP (memC N7 zx)) (by kernel_rfl) (by kernel_rfl) fun x=>by kernel_rfl
end Go.Lv.VT
end
