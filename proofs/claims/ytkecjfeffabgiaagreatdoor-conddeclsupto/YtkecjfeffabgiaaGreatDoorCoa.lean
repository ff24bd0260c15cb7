/- Contracts. -/
import Derived.Test.YtkecjfeffabgiaaGreatDoorTx
import Derived.Test.YtkecjfeffabgiaaGreatDoorIp
import Derived.Test.YtkecjfeffabgiaaGreatDoorLf
import Derived.Test.YtkecjfeffabgiaaGreatDoorPa
noncomputable section
set_option linter.unusedSimpArgs false
set_option linter.unusedVariables false
namespace Go.Lv.VT
set_option maxRecDepth 100000
open Go.Proofs
theorem okC{con:Con I}{A:Env0 I}{exS:StSh}(f:Go.Func)(hS: ∀c∈A.S,zm Tryz.prog c)(hf:Tryz.prog.funcs[con.f]? =some f)(h:chk con A f=true)(he: ∀x,evF2 A T FK f.ntmps (rsl f) (body f) con exS x=con.F x):zm Tryz.prog con:=
 okC0 mixed ipOK tok rfl rfl hS hf h he
def Rp(F:zh×Int->Option Int):Con I:=⟨31,⟨[.val 27, .int .i64],[]⟩,[],⟨[.int .i64],[]⟩,0,F⟩
def au(F:List ze×Int->Option Int):Con I:=⟨104,⟨[.sl 59, .int .i64],[]⟩,[],⟨[.int .i64],[]⟩,0,F⟩
def pz(F:Int->Option Int):Con I:=⟨153,⟨[.int .u8],[]⟩,[],⟨[.int .u8],[]⟩,0,F⟩
def Am(F:List ze->Option Int):Con I:=⟨105,⟨[.sl 59],[]⟩,[],⟨[.int .i64],[]⟩,0,F⟩
def xN(F:List zA->Option Bool):Con I:=⟨61,⟨[.sl 24],[]⟩,[],⟨[.bool],[]⟩,0,F⟩
def Xu(F:zh->Option Bool):Con I:=⟨32,⟨[.val 27],[]⟩,[],⟨[.bool],[]⟩,0,F⟩
def uN(F:zh->Option Bool):Con I:=⟨9,⟨[.val 27],[]⟩,[],⟨[.bool],[]⟩,0,F⟩
def az(F:Int->Option Int):Con I:=⟨58,⟨[.int .u8],[]⟩,[],⟨[.int .u8],[]⟩,0,F⟩
def Np(F:List ze×Int->Option zB):Con I:=⟨85,⟨[.sl 59, .int .u8],[]⟩,[],⟨[.val 111],[]⟩,0,F⟩
def aj(F:List ze->Option Int):Con I:=⟨50,⟨[.sl 59],[]⟩,[],⟨[.int .i64],[]⟩,0,F⟩
def gM(F:List ze->Option (Int×Int)):Con I:=⟨82,⟨[.sl 59],[]⟩,[],⟨[.int .i64, .int .i64],[]⟩,0,F⟩
def xu(F:List ze×List zf->Option (List zf)):Con I:=⟨164,⟨[.own 0, .sl 59],[(0, .sl 57)]⟩,[],⟨[.own 1],[(1, .sl 57)]⟩,1,F⟩
def FO(F:List ze->Option (List zf)):Con I:=⟨164,⟨[.nilv, .sl 59],[]⟩,[],⟨[.own 0],[(0, .sl 57)]⟩,1,F⟩
def FM(F:List ze->Option (List zf×Int)):Con I:=⟨122,⟨[.sl 59],[]⟩,[],⟨[.sl 57, .int .i64],[]⟩,0,F⟩
def ZT(F:Str×Int->Option Int):Con I:=⟨109,⟨[.str, .int .u8],[]⟩,[],⟨[.int .i64],[]⟩,0,F⟩
def jH(F:Str×Str->Option Bool):Con I:=⟨173,⟨[.str, .str],[]⟩,[],⟨[.bool],[]⟩,0,F⟩
def Zk(F:Str×Str->Option Bool):Con I:=⟨130,⟨[.str, .str],[]⟩,[],⟨[.bool],[]⟩,0,F⟩
def Hq(F:Str->Option Str):Con I:=⟨91,⟨[.str],[]⟩,[],⟨[.str],[]⟩,0,F⟩
def lM(F:Str->Option Bool):Con I:=⟨123,⟨[.str],[]⟩,[],⟨[.bool],[]⟩,0,F⟩
def kQ(F:Str×Str->Option Str):Con I:=⟨266,⟨[.str, .str],[]⟩,[],⟨[.str],[]⟩,0,F⟩
def NQ(F:Str×Str->Option Str):Con I:=⟨236,⟨[.str, .str],[]⟩,[],⟨[.str],[]⟩,0,F⟩
def Tp(F:Int->Option Bool):Con I:=⟨158,⟨[.int .u8],[]⟩,[],⟨[.bool],[]⟩,0,F⟩
def dG(F:Str->Option Bool):Con I:=⟨199,⟨[.str],[]⟩,[],⟨[.bool],[]⟩,0,F⟩
def LG(F:Int->Option Bool):Con I:=⟨190,⟨[.int .u8],[]⟩,[],⟨[.bool],[]⟩,0,F⟩
def Nz(F:Int->Option Bool):Con I:=⟨157,⟨[.int .u8],[]⟩,[],⟨[.bool],[]⟩,0,F⟩
def JQ(F:Str×Str->Option Bool):Con I:=⟨200,⟨[.str, .str],[]⟩,[],⟨[.bool],[]⟩,0,F⟩
def IM(F:zf->Option Bool):Con I:=⟨169,⟨[.val 57],[]⟩,[],⟨[.bool],[]⟩,0,F⟩
def iO(F:(Int×Int)×List zf->Option Bool):Con I:=⟨201,⟨[.int .i64, .int .u8, .optr 0],[(0, .row 62)]⟩,[0],⟨[.bool],[]⟩,0,F⟩
def Iq(F:Str×Str->Option Bool):Con I:=⟨131,⟨[.str, .str],[]⟩,[],⟨[.bool],[]⟩,0,F⟩
def mF(F:List zf->Option Int):Con I:=⟨170,⟨[.sl 57],[]⟩,[],⟨[.int .i64],[]⟩,0,F⟩
def pF(F:List zf->Option Int):Con I:=⟨124,⟨[.sl 57],[]⟩,[],⟨[.int .i64],[]⟩,0,F⟩
def Mj(F:ze×Int->Option Bool):Con I:=⟨128,⟨[.val 59, .int .u8],[]⟩,[],⟨[.bool],[]⟩,0,F⟩
def uP(F:ze->Option Bool):Con I:=⟨171,⟨[.val 59],[]⟩,[],⟨[.bool],[]⟩,0,F⟩
def lQ(F:List ze->Option Int):Con I:=⟨172,⟨[.sl 59, .clo 171 []],[]⟩,[],⟨[.int .i64],[]⟩,0,F⟩
def ER(F:List ze->Option Bool):Con I:=⟨126,⟨[.sl 59, .clo 171 []],[]⟩,[],⟨[.bool],[]⟩,0,F⟩
def Qd(F:List ze->Option Bool):Con I:=⟨125,⟨[.sl 59],[]⟩,[],⟨[.bool],[]⟩,0,F⟩
def dE(F:ze->Option Bool):Con I:=⟨129,⟨[.val 59],[]⟩,[],⟨[.bool],[]⟩,0,F⟩
def jO(F:ze->Option Bool):Con I:=⟨127,⟨[.val 59],[]⟩,[],⟨[.bool],[]⟩,0,F⟩
def yQ(F:List ze->Option Int):Con I:=⟨172,⟨[.sl 59, .clo 127 []],[]⟩,[],⟨[.int .i64],[]⟩,0,F⟩
def DR(F:List ze->Option Bool):Con I:=⟨126,⟨[.sl 59, .clo 127 []],[]⟩,[],⟨[.bool],[]⟩,0,F⟩
def Az(F:zA->Option Int):Con I:=⟨83,⟨[.val 24],[]⟩,[],⟨[.int .i64],[]⟩,0,F⟩
def Ju(F:zh->Option Bool):Con I:=⟨47,⟨[.val 27],[]⟩,[],⟨[.bool],[]⟩,0,F⟩
def fE(F:zh->Option Bool):Con I:=⟨71,⟨[.val 27],[]⟩,[],⟨[.bool],[]⟩,0,F⟩
def Iu(F:zh×Int->Option ((Int×Bool)×Int)):Con I:=⟨48,⟨[.val 27, .optr 0],[(0, .row 3)]⟩,[],⟨[.int .i64, .bool],[(0, .row 3)]⟩,0,F⟩
def WA(F:zh->Option Int):Con I:=⟨18,⟨[.val 27],[]⟩,[],⟨[.int .i64],[]⟩,0,F⟩
def JO(F:Int×List ze->Option Bool):Con I:=⟨106,⟨[.int .i64, .optr 0],[(0, .row 22)]⟩,[0],⟨[.bool],[]⟩,0,F⟩
def PQ(F:List ze->Option (List ze)):Con I:=⟨133,⟨[.sl 59],[]⟩,[],⟨[.own 0],[(0, .sl 59)]⟩,1,F⟩
def Lp(F:List ze->Option (List ze)):Con I:=⟨88,⟨[.sl 59],[]⟩,[],⟨[.sl 59],[]⟩,0,F⟩
def yE(F:List ze->Option (List ze×Int)):Con I:=⟨62,⟨[.sl 59],[]⟩,[],⟨[.sl 59, .int .i64],[]⟩,0,F⟩
def Dm(F:zh->Option (List zA)):Con I:=⟨33,⟨[.val 27],[]⟩,[],⟨[.sl 24],[]⟩,0,F⟩
def sF(F:zh->Option (List zA×Int)):Con I:=⟨10,⟨[.val 27],[]⟩,[],⟨[.sl 24, .int .i64],[]⟩,0,F⟩
def Yu(F:zh->Option Int):Con I:=⟨63,⟨[.val 27],[]⟩,[],⟨[.int .i64],[]⟩,0,F⟩
def Yz(F:Int->Option Int):Con I:=⟨149,⟨[.int .u8],[]⟩,[],⟨[.int .u8],[]⟩,0,F⟩
def JG(F:Str->Option Str):Con I:=⟨97,⟨[.str],[]⟩,[],⟨[.str],[]⟩,0,F⟩
def wN(F:Str->Option Bool):Con I:=⟨59,⟨[.str],[]⟩,[],⟨[.bool],[]⟩,0,F⟩
def Pq(F:List ze->Option (List zf)):Con I:=⟨100,⟨[.sl 59],[]⟩,[],⟨[.sl 57],[]⟩,0,F⟩
def Kv(F:List ze×Int->Option Bool):Con I:=⟨150,⟨[.sl 59, .int .u8],[]⟩,[],⟨[.bool],[]⟩,0,F⟩
def yN(F:List ze->Option Int):Con I:=⟨98,⟨[.sl 59],[]⟩,[],⟨[.int .i64],[]⟩,0,F⟩
def AO(F:Str->Option Bool):Con I:=⟨186,⟨[.str],[]⟩,[],⟨[.bool],[]⟩,0,F⟩
def QG(F:Int->Option Bool):Con I:=⟨117,⟨[.int .u8],[]⟩,[],⟨[.bool],[]⟩,0,F⟩
def YM(F:Str->Option Bool):Con I:=⟨187,⟨[.str],[]⟩,[],⟨[.bool],[]⟩,0,F⟩
def wu(F:Int->Option Bool):Con I:=⟨226,⟨[.int .u8],[]⟩,[],⟨[.bool],[]⟩,0,F⟩
def jh(F:Str×Int->Option Int):Con I:=⟨261,⟨[.str, .int .i64],[]⟩,[],⟨[.int .u8],[]⟩,0,F⟩
def rz(F:Str×Int->Option Int):Con I:=⟨227,⟨[.str, .int .i64],[]⟩,[],⟨[.int .i64],[]⟩,0,F⟩
def lF(F:Unit->Option Str):Con I:=⟨286,⟨[],[]⟩,[],⟨[.str],[]⟩,0,F⟩
def yL(F:Int->Option Int):Con I:=⟨287,⟨[.int .u8],[]⟩,[],⟨[.int .i64],[]⟩,0,F⟩
def dM(F:Int->Option Str):Con I:=⟨288,⟨[.int .i64],[]⟩,[],⟨[.str],[]⟩,0,F⟩
def Vv(F:Str×Int->Option (Str×Int)):Con I:=⟨262,⟨[.str, .int .i64],[]⟩,[],⟨[.str, .int .i64],[]⟩,0,F⟩
def dO(F:Str×Int->Option (zf×Int)):Con I:=⟨228,⟨[.str, .int .i64],[]⟩,[],⟨[.val 57, .int .i64],[]⟩,0,F⟩
def lG(F:Int->Option Bool):Con I:=⟨165,⟨[.int .u8],[]⟩,[],⟨[.bool],[]⟩,0,F⟩
def aG(F:Int->Option Bool):Con I:=⟨116,⟨[.int .u8],[]⟩,[],⟨[.bool],[]⟩,0,F⟩
def Rq(F:Str×Int->Option Bool):Con I:=⟨229,⟨[.str, .int .i64],[]⟩,[],⟨[.bool],[]⟩,0,F⟩
def Xz(F:Str×Int->Option (Str×Int)):Con I:=⟨230,⟨[.str, .int .i64],[]⟩,[],⟨[.str, .int .i64],[]⟩,0,F⟩
def YG(F:Str×Int->Option Bool):Con I:=⟨231,⟨[.str, .int .i64],[]⟩,[],⟨[.bool],[]⟩,0,F⟩
def rP(F:Str×Int->Option Bool):Con I:=⟨232,⟨[.str, .int .i64],[]⟩,[],⟨[.bool],[]⟩,0,F⟩
def eO(F:Str×Int->Option Int):Con I:=⟨289,⟨[.str, .int .i64],[]⟩,[],⟨[.int .i64],[]⟩,0,F⟩
def xP(F:Str×Int->Option (Int×Bool)):Con I:=⟨263,⟨[.str, .int .i64],[]⟩,[],⟨[.int .i64, .bool],[]⟩,0,F⟩
def XQ(F:Str->Option Int):Con I:=⟨264,⟨[.str],[]⟩,[],⟨[.int .i64],[]⟩,0,F⟩
def jP(F:Str×Int->Option (zf×Int)):Con I:=⟨233,⟨[.str, .int .i64],[]⟩,[],⟨[.val 57, .int .i64],[]⟩,0,F⟩
def vL(F:Str×Int×Str->Option Bool):Con I:=⟨225,⟨[.str, .int .i64, .str],[]⟩,[],⟨[.bool],[]⟩,0,F⟩
def KG(F:Str×Str->Option Bool):Con I:=⟨152,⟨[.str, .str],[]⟩,[],⟨[.bool],[]⟩,0,F⟩
def wL(F:Str×Int->Option (zf×Int)):Con I:=⟨290,⟨[.str, .int .i64],[]⟩,[],⟨[.val 57, .int .i64],[]⟩,0,F⟩
def WQ(F:Int->Option Bool):Con I:=⟨291,⟨[.int .u8],[]⟩,[],⟨[.bool],[]⟩,0,F⟩
def uL(F:Str×Int->Option (zf×Int)):Con I:=⟨265,⟨[.str, .int .i64],[]⟩,[],⟨[.val 57, .int .i64],[]⟩,0,F⟩
def aM(F:Str×Int->Option (zf×Int)):Con I:=⟨234,⟨[.str, .int .i64],[]⟩,[],⟨[.val 57, .int .i64],[]⟩,0,F⟩
def bM(F:Int->Option Int):Con I:=⟨235,⟨[.int .u8],[]⟩,[],⟨[.int .u8],[]⟩,0,F⟩
def xL(F:Str×Int->Option (zf×Int)):Con I:=⟨198,⟨[.str, .int .i64],[]⟩,[],⟨[.val 57, .int .i64],[]⟩,0,F⟩
def BO(F:Int->Option Bool):Con I:=⟨188,⟨[.int .u8],[]⟩,[],⟨[.bool],[]⟩,0,F⟩
def XM(F:zf->Option Bool):Con I:=⟨151,⟨[.val 57],[]⟩,[],⟨[.bool],[]⟩,0,F⟩
def CO(F:List zf->Option Int):Con I:=⟨99,⟨[.sl 57],[]⟩,[],⟨[.int .i64],[]⟩,0,F⟩
def Uv(F:List ze->Option Bool):Con I:=⟨101,⟨[.sl 59],[]⟩,[],⟨[.bool],[]⟩,0,F⟩
def iP(F:List ze->Option (List ze)):Con I:=⟨102,⟨[.sl 59],[]⟩,[],⟨[.sl 59],[]⟩,0,F⟩
def cO(F:Str->Option Bool):Con I:=⟨103,⟨[.str],[]⟩,[],⟨[.bool],[]⟩,0,F⟩
def bO(F:Str×List ze->Option Bool):Con I:=⟨60,⟨[.str, .sl 59],[]⟩,[],⟨[.bool],[]⟩,0,F⟩
def IG(F:zA->Option Int):Con I:=⟨30,⟨[.val 24],[]⟩,[],⟨[.int .i64],[]⟩,0,F⟩
def tN(F:zA->Option Bool):Con I:=⟨107,⟨[.val 24],[]⟩,[],⟨[.bool],[]⟩,0,F⟩
def aO(F:zh->Option Bool):Con I:=⟨65,⟨[.val 27],[]⟩,[],⟨[.bool],[]⟩,0,F⟩
def Sv(F:zh->Option Bool):Con I:=⟨64,⟨[.val 27],[]⟩,[],⟨[.bool],[]⟩,0,F⟩
def KQ(F:zh->Option Bool):Con I:=⟨34,⟨[.val 27],[]⟩,[],⟨[.bool],[]⟩,0,F⟩
def fQ(F:List Str×Str->Option Int):Con I:=⟨175,⟨[.sl 9, .str],[]⟩,[],⟨[.int .i64],[]⟩,0,F⟩
def mQ(F:List Str×Str->Option Bool):Con I:=⟨134,⟨[.sl 9, .str],[]⟩,[],⟨[.bool],[]⟩,0,F⟩
def OG(F:Str->Option Bool):Con I:=⟨92,⟨[.str],[]⟩,[],⟨[.bool],[]⟩,0,F⟩
def MG(F:List Int->Option Int):Con I:=⟨113,⟨[.sl 2],[]⟩,[],⟨[.int .i64],[]⟩,0,F⟩
def NG(F:Int->Option Int):Con I:=⟨121,⟨[.int .i64],[]⟩,[],⟨[.int .i64],[]⟩,0,F⟩
def mM(F:zh->Option Bool):Con I:=⟨80,⟨[.val 27],[]⟩,[],⟨[.bool],[]⟩,0,F⟩
def nM(F:zh->Option Bool):Con I:=⟨81,⟨[.val 27],[]⟩,[],⟨[.bool],[]⟩,0,F⟩
def MM(F:zh->Option Bool):Con I:=⟨46,⟨[.val 27],[]⟩,[],⟨[.bool],[]⟩,0,F⟩
def aQ(F:zh->Option Bool):Con I:=⟨45,⟨[.val 27],[]⟩,[],⟨[.bool],[]⟩,0,F⟩
def rQ(F:List zh->Option Int):Con I:=⟨79,⟨[.sl 27, .clo 45 []],[]⟩,[],⟨[.int .i64],[]⟩,0,F⟩
def AR(F:List zh->Option Bool):Con I:=⟨44,⟨[.sl 27, .clo 45 []],[]⟩,[],⟨[.bool],[]⟩,0,F⟩
def LH(F:zh->Option Int):Con I:=⟨16,⟨[.val 27],[]⟩,[],⟨[.int .i64],[]⟩,0,F⟩
def Bz(F:zh->Option Int):Con I:=⟨36,⟨[.val 27],[]⟩,[],⟨[.int .i64],[]⟩,0,F⟩
def nO(F:Int×List Bool->Option (Bool×Int)):Con I:=⟨38,⟨[.optr 0, .optr 1],[(0, .row 3),(1, .row 30)]⟩,[1],⟨[.bool],[(0, .row 3)]⟩,0,F⟩
def cu(F:(zh×Int)×Int×List Bool->Option (Bool×Int)):Con I:=⟨37,⟨[.val 27, .int .i64, .clo 38 [0,1]],[(0, .row 3),(1, .row 30)]⟩,[1],⟨[.bool],[(0, .row 3)]⟩,0,F⟩
def rF(F:zh×VEnv×List Bool->Option (Bool×Int)):Con I:=⟨12,⟨[.val 27, .val 29, .sl 4],[]⟩,[],⟨[.bool, .int .i64],[]⟩,0,F⟩
def oF(F:Str->Option Int):Con I:=⟨111,⟨[.str],[]⟩,[],⟨[.int .i64],[]⟩,0,F⟩
def LA(F:Int×List UInt8->Option (List UInt8)):Con I:=⟨159,⟨[.own 0, .int .u8],[(0, .sl 5)]⟩,[],⟨[.own 1],[(1, .sl 5)]⟩,1,F⟩
def dN(F:Str×Int->Option (List UInt8)):Con I:=⟨110,⟨[.nilv, .str, .int .i64],[]⟩,[],⟨[.own 0],[(0, .sl 5)]⟩,1,F⟩
def bE(F:Str->Option (Str×Int)):Con I:=⟨67,⟨[.str],[]⟩,[],⟨[.str, .int .i64],[]⟩,0,F⟩
def mP(F:Int×Int×List UInt8->Option (Int×List UInt8)):Con I:=⟨114,⟨[.int .u8, .optr 0, .optr 1],[(0, .row 3),(1, .sl 5)]⟩,[],⟨[],[(0, .row 3),(1, .sl 5)]⟩,0,F⟩
def gN(F:Int->Option (Str×Int)):Con I:=⟨69,⟨[.int .i64],[]⟩,[],⟨[.str, .int .i64],[]⟩,0,F⟩
def LM(F:List zh×Str->Option Str):Con I:=⟨68,⟨[.sl 27, .str, .clo 41 []],[]⟩,[],⟨[.str],[]⟩,0,F⟩
def Cm(F:zh->Option Str):Con I:=⟨41,⟨[.val 27],[]⟩,[],⟨[.str],[]⟩,0,F⟩
def bN(F:(Str×Int)×List UInt8->Option (List UInt8)):Con I:=⟨110,⟨[.own 0, .str, .int .i64],[(0, .sl 5)]⟩,[],⟨[.own 1],[(1, .sl 5)]⟩,1,F⟩
def iM(F:Unit->Option zaO):Con I:=⟨221,⟨[],[]⟩,[],⟨[.val 230],[]⟩,0,F⟩
def kP(F:(Int×Bool)×List UInt8->Option (List UInt8)):Con I:=⟨220,⟨[.own 0, .int .i64, .bool],[(0, .sl 5)]⟩,[],⟨[.own 1],[(1, .sl 5)]⟩,1,F⟩
def aN(F:zf×List UInt8->Option (List UInt8)):Con I:=⟨194,⟨[.own 0, .val 57],[(0, .sl 5)]⟩,[],⟨[.own 1],[(1, .sl 5)]⟩,1,F⟩
def jQ(F:za->Option za):Con I:=⟨95,⟨[.optr 0],[(0, .row 121)]⟩,[],⟨[],[(0, .row 121)]⟩,0,F⟩
def zK(F:Int×za->Option Int):Con I:=⟨138,⟨[.optr 0, .int .i64],[(0, .row 121)]⟩,[0],⟨[.int .i64],[]⟩,0,F⟩
def Fq(F:Int->Option Bool):Con I:=⟨139,⟨[.int .i64],[]⟩,[],⟨[.bool],[]⟩,0,F⟩
def QH(F:za->Option za):Con I:=⟨140,⟨[.optr 0, .clo 139 []],[(0, .row 121)]⟩,[],⟨[],[(0, .row 121)]⟩,0,F⟩
def xQ(F:Int->Option (List UInt8)):Con I:=⟨244,⟨[.nilv, .int .i32],[]⟩,[],⟨[.own 0],[(0, .sl 5)]⟩,1,F⟩
def SQ(F:Int->Option (List UInt8)):Con I:=⟨210,⟨[.nilv, .int .i32],[]⟩,[],⟨[.own 0],[(0, .sl 5)]⟩,1,F⟩
def Jv(F:Int×Int×Int->Option Bool):Con I:=⟨212,⟨[.int .i64, .int .i64, .int .i64],[]⟩,[],⟨[.bool],[]⟩,0,F⟩
def Gq(F:Int->Option Bool):Con I:=⟨182,⟨[.int .i64],[]⟩,[],⟨[.bool],[]⟩,0,F⟩
def xE(F:Int->Option Int):Con I:=⟨211,⟨[.int .i64],[]⟩,[],⟨[.int .i64],[]⟩,0,F⟩
def CR(F:za->Option (za×List UInt8)):Con I:=⟨180,⟨[.optr 0, .nilv],[(0, .row 121)]⟩,[],⟨[.own 1],[(0, .row 121),(1, .sl 5)]⟩,1,F⟩
def wQ(F:Int×List UInt8->Option (List UInt8)):Con I:=⟨244,⟨[.own 0, .int .i32],[(0, .sl 5)]⟩,[],⟨[.own 1],[(1, .sl 5)]⟩,1,F⟩
def RQ(F:Int×List UInt8->Option (List UInt8)):Con I:=⟨210,⟨[.own 0, .int .i32],[(0, .sl 5)]⟩,[],⟨[.own 1],[(1, .sl 5)]⟩,1,F⟩
def qA(F:za×List UInt8->Option (za×List UInt8)):Con I:=⟨180,⟨[.optr 0, .own 1],[(0, .row 121),(1, .sl 5)]⟩,[],⟨[.own 2],[(0, .row 121),(2, .sl 5)]⟩,1,F⟩
def uQ(F:za->Option (zf×za)):Con I:=⟨141,⟨[.optr 0],[(0, .row 121)]⟩,[],⟨[.val 57],[(0, .row 121)]⟩,0,F⟩
def GG(F:Int->Option Bool):Con I:=⟨181,⟨[.int .i64],[]⟩,[],⟨[.bool],[]⟩,0,F⟩
def jG(F:Int->Option Bool):Con I:=⟨142,⟨[.int .i64],[]⟩,[],⟨[.bool],[]⟩,0,F⟩
def ZM(F:Int×za->Option Bool):Con I:=⟨143,⟨[.optr 0, .int .i64],[(0, .row 121)]⟩,[0],⟨[.bool],[]⟩,0,F⟩
def UH(F:Int×za->Option Bool):Con I:=⟨144,⟨[.optr 0, .int .i64],[(0, .row 121)]⟩,[0],⟨[.bool],[]⟩,0,F⟩
def VA(F:za->Option (Str×za)):Con I:=⟨145,⟨[.optr 0],[(0, .row 121)]⟩,[],⟨[.str],[(0, .row 121)]⟩,0,F⟩
def vQ(F:za->Option Bool):Con I:=⟨146,⟨[.optr 0],[(0, .row 121)]⟩,[0],⟨[.bool],[]⟩,0,F⟩
def nQ(F:za->Option za):Con I:=⟨140,⟨[.optr 0, .clo 182 []],[(0, .row 121)]⟩,[],⟨[],[(0, .row 121)]⟩,0,F⟩
def pQ(F:za->Option (Bool×za)):Con I:=⟨183,⟨[.optr 0],[(0, .row 121)]⟩,[],⟨[.bool],[(0, .row 121)]⟩,0,F⟩
def TQ(F:Str->Option Int):Con I:=⟨184,⟨[.str],[]⟩,[],⟨[.int .i64],[]⟩,0,F⟩
def oQ(F:za->Option (zf×za)):Con I:=⟨147,⟨[.optr 0],[(0, .row 121)]⟩,[],⟨[.val 57],[(0, .row 121)]⟩,0,F⟩
def VQ(F:za->Option (zf×za)):Con I:=⟨216,⟨[.optr 0],[(0, .row 121)]⟩,[],⟨[.val 57],[(0, .row 121)]⟩,0,F⟩
def UQ(F:za->Option (zf×za)):Con I:=⟨185,⟨[.optr 0],[(0, .row 121)]⟩,[],⟨[.val 57],[(0, .row 121)]⟩,0,F⟩
def eQ(F:za->Option (zf×za)):Con I:=⟨148,⟨[.optr 0],[(0, .row 121)]⟩,[],⟨[.val 57],[(0, .row 121)]⟩,0,F⟩
def MQ(F:za->Option (zf×za)):Con I:=⟨96,⟨[.optr 0],[(0, .row 121)]⟩,[],⟨[.val 57],[(0, .row 121)]⟩,0,F⟩
def IQ(F:(zf×Int×Int)×List zf->Option (List zf)):Con I:=⟨56,⟨[.val 57, .int .i64, .int .i64, .optr 0],[(0, .cells 62 [.own 1]),(1, .sl 57)]⟩,[],⟨[],[(0, .cells 62 [.own 2]),(2, .sl 57)]⟩,1,F⟩
def YO(F:Str->Option (Int×List zf)):Con I:=⟨55,⟨[.str, .clo 56 [0]],[(0, .cells 62 [.nilv])]⟩,[],⟨[.int .i64],[(0, .cells 62 [.own 1]),(1, .sl 57)]⟩,1,F⟩
def kG(F:Str->Option (List zf×Int)):Con I:=⟨27,⟨[.str],[]⟩,[],⟨[.sl 57, .int .i64],[]⟩,0,F⟩
def OQ(F:List zf×List zf->Option Bool):Con I:=⟨195,⟨[.sl 57, .sl 57],[]⟩,[],⟨[.bool],[]⟩,0,F⟩
def jM(F:List zf->Option (Str×Int)):Con I:=⟨163,⟨[.sl 57],[]⟩,[],⟨[.str, .int .i64],[]⟩,0,F⟩
def EM(F:List ze->Option (Str×Int)):Con I:=⟨115,⟨[.sl 59],[]⟩,[],⟨[.str, .int .i64],[]⟩,0,F⟩
def KM(F:zA->Option (Str×Int)):Con I:=⟨72,⟨[.val 24],[]⟩,[],⟨[.str, .int .i64],[]⟩,0,F⟩
def KH(F:zh×Bool->Option (Str×Bool)):Con I:=⟨70,⟨[.val 27, .optr 0],[(0, .cells 75 [.optr 1]),(1, .row 4)]⟩,[0],⟨[.str],[(1, .row 4)]⟩,0,F⟩
def iN(F:(List zh×Str)×Bool->Option (Str×Bool)):Con I:=⟨68,⟨[.sl 27, .str, .clo 70 [0]],[(0, .cells 75 [.optr 1]),(1, .row 4)]⟩,[0],⟨[.str],[(1, .row 4)]⟩,0,F⟩
def Ql(F:zh×Bool->Option (Str×Bool)):Con I:=⟨42,⟨[.val 27, .optr 0],[(0, .row 4)]⟩,[],⟨[.str],[(0, .row 4)]⟩,0,F⟩
def iE(F:zh->Option (Str×Int)):Con I:=⟨14,⟨[.val 27],[]⟩,[],⟨[.str, .int .i64],[]⟩,0,F⟩
def gQ(F:zh->Option Int):Con I:=⟨19,⟨[.val 27],[]⟩,[],⟨[.int .i64],[]⟩,0,F⟩
def bu(F:List ze×List ze->Option Bool):Con I:=⟨84,⟨[.sl 59, .sl 59],[]⟩,[],⟨[.bool],[]⟩,0,F⟩
def vN(F:zA×zA->Option Bool):Con I:=⟨49,⟨[.val 24, .val 24],[]⟩,[],⟨[.bool],[]⟩,0,F⟩
def WM(F:List zA×List zA->Option Bool):Con I:=⟨20,⟨[.sl 24, .sl 24],[]⟩,[],⟨[.bool],[]⟩,0,F⟩
def bG(F:Str->Option (List ze)):Con I:=⟨24,⟨[.str],[]⟩,[],⟨[.sl 59],[]⟩,0,F⟩
def fM(F:List ze×Int->Option (List (List ze)×Int)):Con I:=⟨52,⟨[.sl 59, .int .u8],[]⟩,[],⟨[.sl 22, .int .i64],[]⟩,0,F⟩
def qL(F:zk->Option Int):Con I:=⟨89,⟨[.optr 0],[(0, .row 85)]⟩,[0],⟨[.int .u8],[]⟩,0,F⟩
def qM(F:zk->Option (ze×zk)):Con I:=⟨90,⟨[.optr 0],[(0, .row 85)]⟩,[],⟨[.val 59],[(0, .row 85)]⟩,0,F⟩
def qX(F:zk->Option (Bool×zk)):Con I:=⟨53,⟨[.optr 0],[(0, .row 85)]⟩,[],⟨[.bool],[(0, .row 85)]⟩,0,F⟩
def XA(F:List Str×zk->Option (Str×zk)):Con I:=⟨86,⟨[.optr 0, .sl 9],[(0, .row 85)]⟩,[],⟨[.str],[(0, .row 85)]⟩,0,F⟩
def iQ(F:zk->Option ((zh×Bool)×zk)):Con I:=⟨93,⟨[.optr 0],[(0, .row 85)]⟩,[],⟨[.val 27, .bool],[(0, .row 85)]⟩,0,F⟩
def YQ(F:zk->Option ((zh×Bool)×zk)):Con I:=⟨54,⟨[.optr 0],[(0, .row 85)]⟩,[],⟨[.val 27, .bool],[(0, .row 85)]⟩,0,F⟩
def oM(F:List ze->Option (zh×Int)):Con I:=⟨25,⟨[.sl 59],[]⟩,[],⟨[.val 27, .int .i64],[]⟩,0,F⟩
def KO(F:Str×Str×Int×Int->Option Bool):Con I:=⟨21,⟨[.str, .str, .int .i64, .int .i64],[]⟩,[],⟨[.bool],[]⟩,0,F⟩
def JM(F:List ze->Option (List ze)):Con I:=⟨203,⟨[.sl 59],[]⟩,[],⟨[.sl 59],[]⟩,0,F⟩
def kM(F:List ze->Option (List ze)):Con I:=⟨202,⟨[.sl 59],[]⟩,[],⟨[.sl 59],[]⟩,0,F⟩
def gL(F:List ze->Option (zA×Bool)):Con I:=⟨174,⟨[.sl 59],[]⟩,[],⟨[.val 24, .bool],[]⟩,0,F⟩
def iL(F:List ze->Option (zA×Bool×Int)):Con I:=⟨132,⟨[.sl 59],[]⟩,[],⟨[.val 24, .bool, .int .i64],[]⟩,0,F⟩
def AQ(F:zk->Option ((zh×Bool)×zk)):Con I:=⟨87,⟨[.optr 0],[(0, .row 85)]⟩,[],⟨[.val 27, .bool],[(0, .row 85)]⟩,0,F⟩
def qN(F:zk->Option ((zh×Bool)×zk)):Con I:=⟨51,⟨[.optr 0],[(0, .row 85)]⟩,[],⟨[.val 27, .bool],[(0, .row 85)]⟩,0,F⟩
def nP(F:List ze->Option (zh×Int)):Con I:=⟨23,⟨[.sl 59],[]⟩,[],⟨[.val 27, .int .i64],[]⟩,0,F⟩
def gP(F:Int×List Bool->Option (Bool×Int)):Con I:=⟨38,⟨[.optr 0, .optr 1],[(0, .row 3),(1, .cells 30 [.own 2]),(2, .sl 4)]⟩,[1,2],⟨[.bool],[(0, .row 3)]⟩,0,F⟩
def Mv(F:(zh×Int)×Int×List Bool->Option (Bool×Int)):Con I:=⟨37,⟨[.val 27, .int .i64, .clo 38 [0,1]],[(0, .row 3),(1, .cells 30 [.own 2]),(2, .sl 4)]⟩,[1,2],⟨[.bool],[(0, .row 3)]⟩,0,F⟩
def mO(F:(zh×VEnv)×List Bool->Option (Bool×Int)):Con I:=⟨12,⟨[.val 27, .val 29, .own 0],[(0, .sl 4)]⟩,[0],⟨[.bool, .int .i64],[]⟩,0,F⟩
def sP(F:Str×Str×Bool×Bool->Option Bool):Con I:=⟨22,⟨[.str, .str, .bool, .bool],[]⟩,[],⟨[.bool],[]⟩,0,F⟩
def MO(F:Unit->Option Bool):Con I:=⟨26,⟨[],[]⟩,[],⟨[.bool],[]⟩,0,F⟩
def yP(F:zh->Option Bool):Con I:=⟨8,⟨[.val 27],[]⟩,[],⟨[.bool],[]⟩,0,F⟩
def fO(F:List ze->Option (List zf)):Con I:=⟨164,⟨[.nilv, .sl 59],[]⟩,[],⟨[.sl 57],[]⟩,0,F⟩
def MJ(F:Str->Option (Str×Int)):Con I:=⟨94,⟨[.str],[]⟩,[],⟨[.str, .int .i64],[]⟩,0,F⟩
theorem XU:zm Tryz.prog (MJ Pn):=AV
def lK(F:Str×Int->Option Int):Con I:=⟨156,⟨[.str, .int .u8],[]⟩,[],⟨[.int .i64],[]⟩,0,F⟩
theorem uV:zm Tryz.prog (lK Lr):=LW
def XD(F:Str×Str->Option Int):Con I:=⟨137,⟨[.str, .str],[]⟩,[],⟨[.int .i64],[]⟩,0,F⟩
theorem UK:zm Tryz.prog (XD Ej):=yU
def JJ(F:Str×Str->Option Str):Con I:=⟨213,⟨[.str, .str],[]⟩,[],⟨[.str],[]⟩,0,F⟩
theorem UU:zm Tryz.prog (JJ Tk):=VV
def IJ(F:Str×Str->Option Str):Con I:=⟨258,⟨[.str, .str],[]⟩,[],⟨[.str],[]⟩,0,F⟩
theorem TU:zm Tryz.prog (IJ Ym):=UV
def GM(F:Str×Str->Option Int):Con I:=⟨214,⟨[.str, .str],[]⟩,[],⟨[.int .i64],[]⟩,0,F⟩
theorem jX:zm Tryz.prog (GM Ws):=RX
def MS(F:Str×Str->Option (Str×Str×Bool)):Con I:=⟨215,⟨[.str, .str],[]⟩,[],⟨[.str, .str, .bool],[]⟩,0,F⟩
theorem zBT:zm Tryz.prog (MS cutF):=zBw
def mK(F:Int×Int->Option Str):Con I:=⟨259,⟨[.int .i64, .int .i64],[]⟩,[],⟨[.str],[]⟩,0,F⟩
theorem vV:zm Tryz.prog (mK fw):=WV
def RL(F:(Int×Int)×List UInt8->Option (List UInt8)):Con I:=⟨191,⟨[.own 0, .int .u64, .int .i64],[(0, .sl 5)]⟩,[],⟨[.own 1],[(1, .sl 5)]⟩,1,F⟩
theorem lW:zm Tryz.prog (RL Ey):=BX
def TL(F:(Int×Int)×List UInt8->Option (List UInt8)):Con I:=⟨257,⟨[.own 0, .int .i64, .int .i64],[(0, .sl 5)]⟩,[],⟨[.own 1],[(1, .sl 5)]⟩,1,F⟩
theorem mW:zm Tryz.prog (TL Fy):=CX
def LJ(F:List zf->Option (List ze×Int)):Con I:=⟨28,⟨[.sl 57],[]⟩,[],⟨[.sl 59, .int .i64],[]⟩,0,F⟩
theorem WU:zm Tryz.prog (LJ parseF):=xU
def JC(F:List Str×Str->Option Str):Con I:=⟨112,⟨[.sl 9, .str],[]⟩,[],⟨[.str],[]⟩,0,F⟩
theorem xJ:zm Tryz.prog (JC lh):=vT
theorem AY(qh:zh×Int->Option Int)(hs:zm Tryz.prog (Rp qh)):zm Tryz.prog (Rp (Wp qh)):=
 okC (A:=⟨[Rp qh],[],[],0,[(3,⟨[5,6],⟨[.int .i64, .int .i64],[]⟩,[1,2,4],[0],[],0,[5],⟨[.int .i64],[]⟩,[]⟩)],[],[]⟩) (exS:=⟨[.int .i64],[]⟩) Tryz.f31 (memC hs zx) (by kernel_rfl) (by kernel_rfl) fun x=>by kernel_rfl
theorem PN:zm Tryz.prog (Rp qh):=
 zm.recE (I:=I) (P:=Tryz.prog) (f:=31) (inS:=⟨[.val 27, .int .i64],[]⟩) (cst:=[]) (outS:=⟨[.int .i64],[]⟩) (k:=0) (Wp) (by kernel_rfl) (fun S h=>AY S h)
theorem DY(Qi:List ze×Int->Option Int)(hs:zm Tryz.prog (au Qi)):zm Tryz.prog (au (Xp Qi)):=
 okC (A:=⟨[au Qi],[],[],0,[(3,⟨[5,6],⟨[.int .i64, .int .i64],[]⟩,[0,1,4],[],[],0,[5],⟨[.int .i64],[]⟩,[]⟩)],[],[]⟩) (exS:=⟨[.int .i64],[]⟩) Tryz.f104 (memC hs zx) (by kernel_rfl) (by kernel_rfl) fun x=>by kernel_rfl
theorem LZ:zm Tryz.prog (au Qi):=
 zm.recE (I:=I) (P:=Tryz.prog) (f:=104) (inS:=⟨[.sl 59, .int .i64],[]⟩) (cst:=[]) (outS:=⟨[.int .i64],[]⟩) (k:=0) (Xp) (by kernel_rfl) (fun S h=>DY S h)
theorem VG:zm Tryz.prog (pz QT):=
 okC (A:=⟨[],[],[],0,[],[(6,⟨[6],⟨[.bool],[]⟩,[3],[],[],0,[],⟨[],[]⟩,[]⟩)],[]⟩) (exS:=⟨[.int .u8],[]⟩) Tryz.f153 zx (by kernel_rfl) (by kernel_rfl) fun x=>by kernel_rfl
theorem FY(qO:List ze->Option Int)(hs:zm Tryz.prog (Am qO)):zm Tryz.prog (Am (Ez qO)):=
 okC (A:=⟨[pz QT,Am qO],[],[],0,[(3,⟨[3,4],⟨[.int .i64, .int .i64],[]⟩,[0,2],[],[],0,[3],⟨[.int .i64],[]⟩,[]⟩)],[(4,⟨[3,4],⟨[.int .i64, .int .i64],[]⟩,[],[],[],0,[],⟨[],[]⟩,[]⟩)],[]⟩) (exS:=⟨[.int .i64],[]⟩) Tryz.f105 (memC VG (memC hs zx)) (by kernel_rfl) (by kernel_rfl) fun x=>by kernel_rfl
theorem UF:zm Tryz.prog (Am qO):=
 zm.recE (I:=I) (P:=Tryz.prog) (f:=105) (inS:=⟨[.sl 59],[]⟩) (cst:=[]) (outS:=⟨[.int .i64],[]⟩) (k:=0) (Ez) (by kernel_rfl) (fun S h=>FY S h)
theorem J4:zm Tryz.prog (xN Eu):=
 okC (A:=⟨[au Qi,Am qO],[],[],0,[(5,⟨[3,4],⟨[.int .i64, .int .i64],[]⟩,[0],[],[],0,[],⟨[],[]⟩,[]⟩)],[],[]⟩) (exS:=⟨[.bool],[]⟩) Tryz.f61 (memC LZ (memC UF zx)) (by kernel_rfl) (by kernel_rfl) fun x=>by kernel_rfl
theorem yX(Xh:zh->Option Bool)(hs:zm Tryz.prog (Xu Xh)):zm Tryz.prog (Xu (Vp Xh)):=
 okC (A:=⟨[xN Eu,Xu Xh],[(1,[2])],[],0,[(4,⟨[3],⟨[.int .i64],[]⟩,[1],[0],[],0,[],⟨[],[]⟩,[]⟩)],[],[]⟩) (exS:=⟨[.bool],[]⟩) Tryz.f32 (memC J4 (memC hs zx)) (by kernel_rfl) (by kernel_rfl) fun x=>by kernel_rfl
theorem IZ:zm Tryz.prog (Xu Xh):=
 zm.recE (I:=I) (P:=Tryz.prog) (f:=32) (inS:=⟨[.val 27],[]⟩) (cst:=[]) (outS:=⟨[.bool],[]⟩) (k:=0) (Vp) (by kernel_rfl) (fun S h=>yX S h)
theorem X3:zm Tryz.prog (uN Bu):=
 okC (A:=⟨[Rp qh,Xu Xh],[],[],0,[],[],[]⟩) (exS:=⟨[.bool],[]⟩) Tryz.f9 (memC PN (memC IZ zx)) (by kernel_rfl) (by kernel_rfl) fun x=>by kernel_rfl
theorem EG:zm Tryz.prog (az qV):=
 okC (A:=⟨[],[],[],0,[],[(7,⟨[6],⟨[.bool],[]⟩,[0],[],[],0,[],⟨[],[]⟩,[]⟩)],[]⟩) (exS:=⟨[.int .u8],[]⟩) Tryz.f58 zx (by kernel_rfl) (by kernel_rfl) fun x=>by kernel_rfl
theorem vX(qo:List ze×Int->Option zB)(hs:zm Tryz.prog (Np qo)):zm Tryz.prog (Np (Ep qo)):=
 okC (A:=⟨[az qV,Np qo],[],[],0,[(3,⟨[12],⟨[.int .i64],[(1, .row 111)]⟩,[1,4,5,10,11],[0],[1],0,[],⟨[],[(1, .row 111)]⟩,[1]⟩)],[(9,⟨[],⟨[],[(1, .row 111)]⟩,[7,8,12],[2],[1],0,[],⟨[],[]⟩,[]⟩),(12,⟨[12],⟨[.int .i64],[(1, .row 111)]⟩,[],[],[1],0,[],⟨[],[]⟩,[]⟩)],[]⟩) (exS:=⟨[.optr 0],[(0, .row 111)]⟩) Tryz.f85 (memC EG (memC hs zx)) (by kernel_rfl) (by kernel_rfl) fun x=>by kernel_rfl
theorem vM:zm Tryz.prog (Np qo):=
 zm.recE (I:=I) (P:=Tryz.prog) (f:=85) (inS:=⟨[.sl 59, .int .u8],[]⟩) (cst:=[]) (outS:=⟨[.val 111],[]⟩) (k:=0) (Ep) (by kernel_rfl) (fun S h=>vX S h)
theorem ol:zm Tryz.prog (aj ZF):=
 okC (A:=⟨[Np qo],[],[],0,[],[],[]⟩) (exS:=⟨[.int .i64],[]⟩) Tryz.f50 (memC vM zx) (by kernel_rfl) (by kernel_rfl) fun x=>by kernel_rfl
theorem vY:zm Tryz.prog (gM Ml):=
 okC (A:=⟨[aj ZF,Np qo],[],[],0,[],[],[]⟩) (exS:=⟨[.int .i64, .int .i64],[]⟩) Tryz.f82 (memC ol (memC vM zx)) (by kernel_rfl) (by kernel_rfl) fun x=>by kernel_rfl
theorem U2(ZJ:List ze×List zf->Option (List zf))(hs:zm Tryz.prog (xu ZJ)):zm Tryz.prog (xu (Dq ZJ)):=
 okC (A:=⟨[az qV,xu ZJ],[(4,[3]),(7,[6])],[],1,[(2,⟨[0,10],⟨[.own 1001, .int .i64],[(1001, .sl 57)]⟩,[4,8,9],[],[],0,[0],⟨[.own 1001],[(1001, .sl 57)]⟩,[1001]⟩)],[(8,⟨[0,10],⟨[.own 1103, .int .i64],[(1103, .sl 57)]⟩,[],[],[],0,[],⟨[],[]⟩,[]⟩)],[]⟩) (exS:=⟨[.own 1],[(1, .sl 57)]⟩) Tryz.f164 (memC EG (memC hs zx)) (by kernel_rfl) (by kernel_rfl) fun x=>by kernel_rfl
theorem U4:zm Tryz.prog (xu ZJ):=
 zm.recE (I:=I) (P:=Tryz.prog) (f:=164) (inS:=⟨[.own 0, .sl 59],[(0, .sl 57)]⟩) (cst:=[]) (outS:=⟨[.own 1],[(1, .sl 57)]⟩) (k:=1) (Dq) (by kernel_rfl) (fun S h=>U2 S h)
theorem xO:zm Tryz.prog (FO Q0):=
 okC (A:=⟨[az qV,xu ZJ],[(4,[3]),(7,[6])],[],0,[(2,⟨[0,10],⟨[.own 1105, .int .i64],[(1105, .sl 57)]⟩,[4,8,9],[],[],0,[0],⟨[.own 1105],[(1105, .sl 57)]⟩,[1105]⟩)],[(8,⟨[0,10],⟨[.own 1207, .int .i64],[(1207, .sl 57)]⟩,[],[],[],0,[],⟨[],[]⟩,[]⟩)],[]⟩) (exS:=⟨[.own 0],[(0, .sl 57)]⟩) Tryz.f164 (memC EG (memC U4 zx)) (by kernel_rfl) (by kernel_rfl) fun x=>by kernel_rfl
theorem L6:zm Tryz.prog (fO Q0):=fU ipOK (by kernel_rfl) xO
theorem iX:zm Tryz.prog (FM Bl):=
 okC (A:=⟨[aj ZF,FO Q0],[],[],0,[],[],[]⟩) (exS:=⟨[.sl 57, .int .i64],[]⟩) Tryz.f122 (memC ol (memC xO zx)) (by kernel_rfl) (by kernel_rfl) fun x=>by kernel_rfl
theorem qg:zm Tryz.prog (ZT strings_IndexByte):=
 okC (A:=⟨[lK Lr],[],[],0,[],[],[]⟩) (exS:=⟨[.int .i64],[]⟩) Tryz.f109 (memC uV zx) (by kernel_rfl) (by kernel_rfl) fun x=>by kernel_rfl
theorem sQ:zm Tryz.prog (jH stringslite_HasPrefix):=
 okC (A:=⟨[],[],[],0,[],[],[]⟩) (exS:=⟨[.bool],[]⟩) Tryz.f173 zx (by kernel_rfl) (by kernel_rfl) fun x=>by kernel_rfl
theorem Zr:zm Tryz.prog (Zk strings_HasPrefix):=
 okC (A:=⟨[jH stringslite_HasPrefix],[],[],0,[],[],[]⟩) (exS:=⟨[.bool],[]⟩) Tryz.f130 (memC sQ zx) (by kernel_rfl) (by kernel_rfl) fun x=>by kernel_rfl
theorem pu:zm Tryz.prog (Hq ZH):=
 okC (A:=⟨[],[],[],0,[(3,⟨[10],⟨[.int .i64],[(0, .sl 5)]⟩,[2,3,8,9],[],[0],0,[],⟨[],[(0, .sl 5)]⟩,[0]⟩)],[(7,⟨[10],⟨[.int .i64],[(0, .sl 5)]⟩,[],[],[0],0,[],⟨[],[]⟩,[]⟩)],[]⟩) (exS:=⟨[.str],[]⟩) Tryz.f91 zx (by kernel_rfl) (by kernel_rfl) fun x=>by kernel_rfl
theorem AZ:zm Tryz.prog (lM Rl):=
 okC (A:=⟨[ZT strings_IndexByte,Zk strings_HasPrefix,Hq ZH],[],[],0,[],[],[]⟩) (exS:=⟨[.bool],[]⟩) Tryz.f123 (memC qg (memC Zr (memC pu zx))) (by kernel_rfl) (by kernel_rfl) fun x=>by kernel_rfl
theorem zgf:zm Tryz.prog (kQ stringslite_TrimPrefix):=
 okC (A:=⟨[jH stringslite_HasPrefix],[],[],0,[],[],[]⟩) (exS:=⟨[.str],[]⟩) Tryz.f266 (memC sQ zx) (by kernel_rfl) (by kernel_rfl) fun x=>by kernel_rfl
theorem J9:zm Tryz.prog (NQ strings_TrimPrefix):=
 okC (A:=⟨[kQ stringslite_TrimPrefix],[],[],0,[],[],[]⟩) (exS:=⟨[.str],[]⟩) Tryz.f236 (memC zgf zx) (by kernel_rfl) (by kernel_rfl) fun x=>by kernel_rfl
theorem tu:zm Tryz.prog (Tp qf):=
 okC (A:=⟨[],[],[],0,[],[],[]⟩) (exS:=⟨[.bool],[]⟩) Tryz.f158 zx (by kernel_rfl) (by kernel_rfl) fun x=>by kernel_rfl
theorem WP:zm Tryz.prog (dG Yj):=
 okC (A:=⟨[NQ strings_TrimPrefix,Tp qf],[],[],0,[],[],[]⟩) (exS:=⟨[.bool],[]⟩) Tryz.f199 (memC J9 (memC tu zx)) (by kernel_rfl) (by kernel_rfl) fun x=>by kernel_rfl
theorem yO:zm Tryz.prog (LG Ou):=
 okC (A:=⟨[],[],[],0,[],[],[]⟩) (exS:=⟨[.bool],[]⟩) Tryz.f190 zx (by kernel_rfl) (by kernel_rfl) fun x=>by kernel_rfl
theorem VF:zm Tryz.prog (Nz Yh):=
 okC (A:=⟨[LG Ou,Tp qf],[],[],0,[],[],[]⟩) (exS:=⟨[.bool],[]⟩) Tryz.f157 (memC yO (memC tu zx)) (by kernel_rfl) (by kernel_rfl) fun x=>by kernel_rfl
theorem K8:zm Tryz.prog (JQ strings_Contains):=
 okC (A:=⟨[XD Ej],[],[],0,[],[],[]⟩) (exS:=⟨[.bool],[]⟩) Tryz.f200 (memC UK zx) (by kernel_rfl) (by kernel_rfl) fun x=>by kernel_rfl
theorem kX:zm Tryz.prog (IM Uo):=
 okC (A:=⟨[ZT strings_IndexByte,dG Yj,Zk strings_HasPrefix,Nz Yh,JQ strings_Contains],[],[],0,[],[(8,⟨[3,4,5,6,7,25],⟨[.bool, .bool, .bool, .bool, .bool, .bool],[]⟩,[1,16],[],[],0,[],⟨[],[]⟩,[]⟩),(14,⟨[3,4,5,6,7,63],⟨[.bool, .bool, .bool, .bool, .bool, .bool],[]⟩,[],[],[],0,[],⟨[],[]⟩,[]⟩),(22,⟨[4,5,6,7,94],⟨[.bool, .bool, .bool, .bool, .bool],[]⟩,[3],[],[],0,[],⟨[],[]⟩,[]⟩),(24,⟨[3,4,5,6,7],⟨[.bool, .bool, .bool, .bool, .bool],[]⟩,[1],[0],[],0,[],⟨[],[]⟩,[]⟩)],[]⟩) (exS:=⟨[.bool],[]⟩) Tryz.f169 (memC qg (memC WP (memC Zr (memC VF (memC K8 zx))))) (by kernel_rfl) (by kernel_rfl) fun x=>by kernel_rfl
theorem M6:zm Tryz.prog (iO qj):=
 okC (A:=⟨[],[],[],1,[],[],[]⟩) (exS:=⟨[.bool],[]⟩) Tryz.f201 zx (by kernel_rfl) (by kernel_rfl) fun x=>by kernel_rfl
theorem su:zm Tryz.prog (Iq ZU):=
 okC (A:=⟨[Hq ZH],[],[],0,[],[],[]⟩) (exS:=⟨[.bool],[]⟩) Tryz.f131 (memC pu zx) (by kernel_rfl) (by kernel_rfl) fun x=>by kernel_rfl
theorem SN:zm Tryz.prog (mF Xi):=
 okC (A:=⟨[iO qj,Iq ZU],[],[],0,[],[(11,⟨[5],⟨[.int .i64],[]⟩,[3],[0],[],0,[],⟨[],[]⟩,[]⟩)],[]⟩) (exS:=⟨[.int .i64],[]⟩) Tryz.f170 (memC M6 (memC su zx)) (by kernel_rfl) (by kernel_rfl) fun x=>by kernel_rfl
theorem UN:zm Tryz.prog (pF QF):=
 okC (A:=⟨[IM Uo,mF Xi],[],[],0,[(4,⟨[10],⟨[.int .i64],[]⟩,[0,8,9],[],[],0,[],⟨[],[]⟩,[]⟩)],[],[]⟩) (exS:=⟨[.int .i64],[]⟩) Tryz.f124 (memC kX (memC SN zx)) (by kernel_rfl) (by kernel_rfl) fun x=>by kernel_rfl
theorem Ll:zm Tryz.prog (Mj ZA):=
 okC (A:=⟨[],[],[],0,[],[],[]⟩) (exS:=⟨[.bool],[]⟩) Tryz.f128 zx (by kernel_rfl) (by kernel_rfl) fun x=>by kernel_rfl
theorem u7(zt:List ze->Option Bool)(h_decl_closers:zm Tryz.prog (Qd zt)):zm Tryz.prog (uP (Qe zt)):=
 okC (A:=⟨[Mj ZA,Qd zt],[],[],0,[],[],[]⟩) (exS:=⟨[.bool],[]⟩) Tryz.f171 (memC Ll (memC h_decl_closers zx)) (by kernel_rfl) (by kernel_rfl) fun x=>by kernel_rfl
theorem zge(zt:List ze->Option Bool)(h_decl_closers:zm Tryz.prog (Qd zt)):zm Tryz.prog (lQ (ZN zt)):=
 okC (A:=⟨[uP (Qe zt)],[],[],0,[(2,⟨[8],⟨[.int .i64],[]⟩,[0,1,7],[],[],0,[],⟨[],[]⟩,[]⟩)],[],[]⟩) (exS:=⟨[.int .i64],[]⟩) Tryz.f172 (memC (u7 zt h_decl_closers) zx) (by kernel_rfl) (by kernel_rfl) fun x=>by kernel_rfl
theorem zex(zt:List ze->Option Bool)(h_decl_closers:zm Tryz.prog (Qd zt)):zm Tryz.prog (ER (Zq zt)):=
 okC (A:=⟨[lQ (ZN zt)],[],[],0,[],[],[]⟩) (exS:=⟨[.bool],[]⟩) Tryz.f126 (memC (zge zt h_decl_closers) zx) (by kernel_rfl) (by kernel_rfl) fun x=>by kernel_rfl
theorem V5(zt:List ze->Option Bool)(hs:zm Tryz.prog (Qd zt)):zm Tryz.prog (Qd (Oq zt)):=
 okC (A:=⟨[ER (Zq zt)],[],[],0,[],[],[]⟩) (exS:=⟨[.bool],[]⟩) Tryz.f125 (memC (zex zt hs) zx) (by kernel_rfl) (by kernel_rfl) fun x=>by kernel_rfl
theorem O6:zm Tryz.prog (Qd zt):=
 zm.recE (I:=I) (P:=Tryz.prog) (f:=125) (inS:=⟨[.sl 59],[]⟩) (cst:=[]) (outS:=⟨[.bool],[]⟩) (k:=0) (Oq) (by kernel_rfl) (fun S h=>V5 S h)
theorem yM:zm Tryz.prog (dE Hl):=
 okC (A:=⟨[Mj ZA],[],[],0,[],[],[]⟩) (exS:=⟨[.bool],[]⟩) Tryz.f129 (memC Ll zx) (by kernel_rfl) (by kernel_rfl) fun x=>by kernel_rfl
theorem P6:zm Tryz.prog (jO gp):=
 okC (A:=⟨[Mj ZA,dE Hl],[],[],0,[],[],[]⟩) (exS:=⟨[.bool],[]⟩) Tryz.f127 (memC Ll (memC yM zx)) (by kernel_rfl) (by kernel_rfl) fun x=>by kernel_rfl
theorem zfi:zm Tryz.prog (yQ Zx):=
 okC (A:=⟨[jO gp],[],[],0,[(2,⟨[8],⟨[.int .i64],[]⟩,[0,1,7],[],[],0,[],⟨[],[]⟩,[]⟩)],[],[]⟩) (exS:=⟨[.int .i64],[]⟩) Tryz.f172 (memC P6 zx) (by kernel_rfl) (by kernel_rfl) fun x=>by kernel_rfl
theorem zdY:zm Tryz.prog (DR Zc):=
 okC (A:=⟨[yQ Zx],[],[],0,[],[],[]⟩) (exS:=⟨[.bool],[]⟩) Tryz.f126 (memC zfi zx) (by kernel_rfl) (by kernel_rfl) fun x=>by kernel_rfl
theorem WF:zm Tryz.prog (Az QE):=
 okC (A:=⟨[FM Bl,lM Rl,pF QF,Qd zt,DR Zc,Zk strings_HasPrefix,Mj ZA],[],[],0,[],[],[]⟩) (exS:=⟨[.int .i64],[]⟩) Tryz.f83 (memC iX (memC AZ (memC UN (memC O6 (memC zdY (memC Zr (memC Ll zx))))))) (by kernel_rfl) (by kernel_rfl) fun x=>by kernel_rfl
theorem Fz:zm Tryz.prog (Ju ZX):=
 okC (A:=⟨[],[],[],0,[],[],[]⟩) (exS:=⟨[.bool],[]⟩) Tryz.f47 zx (by kernel_rfl) (by kernel_rfl) fun x=>by kernel_rfl
theorem BN:zm Tryz.prog (fE Vi):=
 okC (A:=⟨[],[],[],0,[],[],[]⟩) (exS:=⟨[.bool],[]⟩) Tryz.f71 zx (by kernel_rfl) (by kernel_rfl) fun x=>by kernel_rfl
theorem wX(Z6:zh×Int->Option ((Int×Bool)×Int))(hs:zm Tryz.prog (Iu Z6)):zm Tryz.prog (Iu (Xj Z6)):=
 okC (A:=⟨[gM Ml,Az QE,Ju ZX,Iu Z6,fE Vi],[],[],1,[(19,⟨[9,97],⟨[.int .i64, .int .i64],[(0, .row 3)]⟩,[1,95,96],[],[0],1,[9],⟨[.int .i64],[(0, .row 3)]⟩,[0]⟩)],[(15,⟨[69],⟨[.bool],[]⟩,[1,2,6],[0,1],[],0,[],⟨[],[]⟩,[]⟩),(26,⟨[9,12],⟨[.int .i64, .int .i64],[]⟩,[97],[0],[],0,[],⟨[],[]⟩,[]⟩)],[]⟩) (exS:=⟨[.int .i64, .bool],[(0, .row 3)]⟩) Tryz.f48 (memC vY (memC WF (memC Fz (memC hs (memC BN zx))))) (by kernel_rfl) (by kernel_rfl) fun x=>by kernel_rfl
theorem nX:zm Tryz.prog (Iu Z6):=
 zm.recE (I:=I) (P:=Tryz.prog) (f:=48) (inS:=⟨[.val 27, .optr 0],[(0, .row 3)]⟩) (cst:=[]) (outS:=⟨[.int .i64, .bool],[(0, .row 3)]⟩) (k:=0) (Xj) (by kernel_rfl) (fun S h=>wX S h)
theorem OH:zm Tryz.prog (WA Ze):=
 okC (A:=⟨[Iu Z6],[],[],0,[],[],[]⟩) (exS:=⟨[.int .i64],[]⟩) Tryz.f18 (memC nX zx) (by kernel_rfl) (by kernel_rfl) fun x=>by kernel_rfl
theorem V4:zm Tryz.prog (JO Uj):=
 okC (A:=⟨[],[],[],1,[],[],[]⟩) (exS:=⟨[.bool],[]⟩) Tryz.f106 zx (by kernel_rfl) (by kernel_rfl) fun x=>by kernel_rfl
theorem L9:zm Tryz.prog (PQ qP):=
 okC (A:=⟨[],[],[],0,[],[],[]⟩) (exS:=⟨[.own 0],[(0, .sl 59)]⟩) Tryz.f133 zx (by kernel_rfl) (by kernel_rfl) fun x=>by kernel_rfl
theorem uX(Z8:List ze->Option (List ze))(hs:zm Tryz.prog (Lp Z8)):zm Tryz.prog (Lp (Dp Z8)):=
 okC (A:=⟨[PQ qP,Lp Z8],[],[],0,[(3,⟨[8],⟨[.int .i64],[(0, .sl 59)]⟩,[0,2,7],[],[0],0,[],⟨[],[(0, .sl 59)]⟩,[0]⟩)],[],[]⟩) (exS:=⟨[.sl 59],[]⟩) Tryz.f88 (memC L9 (memC hs zx)) (by kernel_rfl) (by kernel_rfl) fun x=>by kernel_rfl
theorem uM:zm Tryz.prog (Lp Z8):=
 zm.recE (I:=I) (P:=Tryz.prog) (f:=88) (inS:=⟨[.sl 59],[]⟩) (cst:=[]) (outS:=⟨[.sl 59],[]⟩) (k:=0) (Dp) (by kernel_rfl) (fun S h=>uX S h)
theorem wM:zm Tryz.prog (yE og):=
 okC (A:=⟨[aj ZF,JO Uj,Lp Z8],[],[],0,[(6,⟨[6],⟨[.int .i64],[]⟩,[1,2,3,5,7],[0],[],0,[6],⟨[.int .i64],[]⟩,[]⟩),(8,⟨[7],⟨[.int .i64],[]⟩,[1,2,3,5,6],[0],[],2,[7],⟨[.int .i64],[]⟩,[]⟩)],[],[]⟩) (exS:=⟨[.sl 59, .int .i64],[]⟩) Tryz.f62 (memC ol (memC V4 (memC uM zx))) (by kernel_rfl) (by kernel_rfl) fun x=>by kernel_rfl
theorem IY(Zw:zh->Option (List zA))(hs:zm Tryz.prog (Dm Zw)):zm Tryz.prog (Dm (Bq Zw)):=
 okC (A:=⟨[yE og,Dm Zw],[(4,[1])],[],0,[(7,⟨[4,24],⟨[.own 1208, .int .i64],[(1208, .sl 24)]⟩,[2,22,23],[],[],0,[4],⟨[.own 1208],[(1208, .sl 24)]⟩,[1208]⟩)],[],[]⟩) (exS:=⟨[.sl 24],[]⟩) Tryz.f33 (memC wM (memC hs zx)) (by kernel_rfl) (by kernel_rfl) fun x=>by kernel_rfl
theorem XF:zm Tryz.prog (Dm Zw):=
 zm.recE (I:=I) (P:=Tryz.prog) (f:=33) (inS:=⟨[.val 27],[]⟩) (cst:=[]) (outS:=⟨[.sl 24],[]⟩) (k:=0) (Bq) (by kernel_rfl) (fun S h=>IY S h)
theorem WN:zm Tryz.prog (sF dh):=
 okC (A:=⟨[WA Ze,Dm Zw],[],[],0,[],[],[]⟩) (exS:=⟨[.sl 24, .int .i64],[]⟩) Tryz.f10 (memC OH (memC XF zx)) (by kernel_rfl) (by kernel_rfl) fun x=>by kernel_rfl
theorem CY(Ai:zh->Option Int)(hs:zm Tryz.prog (Yu Ai)):zm Tryz.prog (Yu (Cz Ai)):=
 okC (A:=⟨[Am qO,Yu Ai],[],[],0,[(7,⟨[3,4],⟨[.int .i64, .int .i64],[]⟩,[1,2],[0],[],0,[3],⟨[.int .i64],[]⟩,[]⟩)],[(13,⟨[3,6],⟨[.int .i64, .int .i64],[]⟩,[4],[],[],0,[],⟨[],[]⟩,[]⟩)],[]⟩) (exS:=⟨[.int .i64],[]⟩) Tryz.f63 (memC UF (memC hs zx)) (by kernel_rfl) (by kernel_rfl) fun x=>by kernel_rfl
theorem JZ:zm Tryz.prog (Yu Ai):=
 zm.recE (I:=I) (P:=Tryz.prog) (f:=63) (inS:=⟨[.val 27],[]⟩) (cst:=[]) (outS:=⟨[.int .i64],[]⟩) (k:=0) (Cz) (by kernel_rfl) (fun S h=>CY S h)
theorem CG:zm Tryz.prog (Yz Q5):=
 okC (A:=⟨[],[],[],0,[],[],[]⟩) (exS:=⟨[.int .u8],[]⟩) Tryz.f149 zx (by kernel_rfl) (by kernel_rfl) fun x=>by kernel_rfl
theorem vO:zm Tryz.prog (JG Qs):=
 okC (A:=⟨[Yz Q5],[],[],0,[(3,⟨[4],⟨[.int .i64],[(0, .sl 5)]⟩,[2,3],[],[0],0,[],⟨[],[(0, .sl 5)]⟩,[0]⟩)],[],[]⟩) (exS:=⟨[.str],[]⟩) Tryz.f97 (memC CG zx) (by kernel_rfl) (by kernel_rfl) fun x=>by kernel_rfl
theorem I4:zm Tryz.prog (wN Du):=
 okC (A:=⟨[JG Qs],[],[],0,[(4,⟨[3],⟨[.int .i64],[]⟩,[0],[],[],0,[],⟨[],[]⟩,[]⟩)],[],[]⟩) (exS:=⟨[.bool],[]⟩) Tryz.f59 (memC vO zx) (by kernel_rfl) (by kernel_rfl) fun x=>by kernel_rfl
theorem U5(ql:List ze->Option (List zf))(hs:zm Tryz.prog (Pq ql)):zm Tryz.prog (Pq (xz ql)):=
 okC (A:=⟨[pz QT,Pq ql],[(5,[6]),(9,[3])],[],0,[(3,⟨[3,4],⟨[.own 1209, .int .i64],[(1209, .sl 57)]⟩,[0,2],[],[],0,[3],⟨[.own 1209],[(1209, .sl 57)]⟩,[1209]⟩)],[(4,⟨[3,4],⟨[.own 1311, .int .i64],[(1311, .sl 57)]⟩,[],[],[],0,[],⟨[],[]⟩,[]⟩)],[]⟩) (exS:=⟨[.sl 57],[]⟩) Tryz.f100 (memC VG (memC hs zx)) (by kernel_rfl) (by kernel_rfl) fun x=>by kernel_rfl
theorem NP:zm Tryz.prog (Pq ql):=
 zm.recE (I:=I) (P:=Tryz.prog) (f:=100) (inS:=⟨[.sl 59],[]⟩) (cst:=[]) (outS:=⟨[.sl 57],[]⟩) (k:=0) (xz) (by kernel_rfl) (fun S h=>U5 S h)
theorem R5(Qg:List ze×Int->Option Bool)(hs:zm Tryz.prog (Kv Qg)):zm Tryz.prog (Kv (wz Qg)):=
 okC (A:=⟨[pz QT,Kv Qg],[],[],0,[(2,⟨[5],⟨[.int .i64],[]⟩,[0,1],[],[],0,[],⟨[],[]⟩,[]⟩)],[],[]⟩) (exS:=⟨[.bool],[]⟩) Tryz.f150 (memC VG (memC hs zx)) (by kernel_rfl) (by kernel_rfl) fun x=>by kernel_rfl
theorem I6:zm Tryz.prog (Kv Qg):=
 zm.recE (I:=I) (P:=Tryz.prog) (f:=150) (inS:=⟨[.sl 59, .int .u8],[]⟩) (cst:=[]) (outS:=⟨[.bool],[]⟩) (k:=0) (wz) (by kernel_rfl) (fun S h=>R5 S h)
theorem K4:zm Tryz.prog (yN Fu):=
 okC (A:=⟨[Am qO,Pq ql,Kv Qg],[],[],0,[],[],[]⟩) (exS:=⟨[.int .i64],[]⟩) Tryz.f98 (memC UF (memC NP (memC I6 zx))) (by kernel_rfl) (by kernel_rfl) fun x=>by kernel_rfl
theorem M4:zm Tryz.prog (AO Tj):=
 okC (A:=⟨[],[],[],0,[(2,⟨[3],⟨[.int .i64],[]⟩,[0],[],[],0,[],⟨[],[]⟩,[]⟩)],[],[]⟩) (exS:=⟨[.bool],[]⟩) Tryz.f186 zx (by kernel_rfl) (by kernel_rfl) fun x=>by kernel_rfl
theorem Q4:zm Tryz.prog (QG zZ):=
 okC (A:=⟨[],[],[],0,[],[],[]⟩) (exS:=⟨[.bool],[]⟩) Tryz.f117 zx (by kernel_rfl) (by kernel_rfl) fun x=>by kernel_rfl
theorem OZ:zm Tryz.prog (YM Xt):=
 okC (A:=⟨[QG zZ],[],[],0,[],[],[]⟩) (exS:=⟨[.bool],[]⟩) Tryz.f187 (memC Q4 zx) (by kernel_rfl) (by kernel_rfl) fun x=>by kernel_rfl
theorem AA:zm Tryz.prog (wu qy):=
 okC (A:=⟨[],[],[],0,[],[],[]⟩) (exS:=⟨[.bool],[]⟩) Tryz.f226 zx (by kernel_rfl) (by kernel_rfl) fun x=>by kernel_rfl
theorem Q3:zm Tryz.prog (jh zT):=
 okC (A:=⟨[],[],[],0,[],[],[]⟩) (exS:=⟨[.int .u8],[]⟩) Tryz.f261 zx (by kernel_rfl) (by kernel_rfl) fun x=>by kernel_rfl
theorem WG:zm Tryz.prog (rz Qf):=
 okC (A:=⟨[jh zT,wu qy],[],[],0,[(1,⟨[1],⟨[.int .i64],[]⟩,[0,4],[],[],0,[1],⟨[.int .i64],[]⟩,[]⟩)],[],[]⟩) (exS:=⟨[.int .i64],[]⟩) Tryz.f227 (memC Q3 (memC AA zx)) (by kernel_rfl) (by kernel_rfl) fun x=>by kernel_rfl
theorem RN:zm Tryz.prog (lF uo):=
 okC (A:=⟨[],[(1,[0])],[],0,[],[],[]⟩) (exS:=⟨[.str],[]⟩) Tryz.f286 zx (by kernel_rfl) (by kernel_rfl) fun x=>by kernel_rfl
theorem dX:zm Tryz.prog (yL Nj):=
 okC (A:=⟨[QG zZ,Yz Q5],[],[],0,[],[],[]⟩) (exS:=⟨[.int .i64],[]⟩) Tryz.f287 (memC Q4 (memC CG zx)) (by kernel_rfl) (by kernel_rfl) fun x=>by kernel_rfl
theorem tY:zm Tryz.prog (dM Wy):=
 okC (A:=⟨[lF uo],[(4,[2]),(6,[8]),(8,[13]),(9,[18])],[],0,[],[],[]⟩) (exS:=⟨[.str],[]⟩) Tryz.f288 (memC RN zx) (by kernel_rfl) (by kernel_rfl) fun x=>by kernel_rfl
theorem EA:zm Tryz.prog (Vv qa):=
 okC (A:=⟨[lF uo,yL Nj,jh zT,wu qy,dM Wy],[],[],0,[(7,⟨[6,7],⟨[.int .i64, .int .i64],[]⟩,[0,1,4,5],[],[],0,[6,7],⟨[.int .i64, .int .i64],[]⟩,[]⟩)],[(12,⟨[7],⟨[.int .i64],[]⟩,[6],[],[],0,[],⟨[],[]⟩,[]⟩)],[]⟩) (exS:=⟨[.str, .int .i64],[]⟩) Tryz.f262 (memC RN (memC dX (memC Q3 (memC AA (memC tY zx))))) (by kernel_rfl) (by kernel_rfl) fun x=>by kernel_rfl
theorem J6:zm Tryz.prog (dO ku):=
 okC (A:=⟨[Vv qa],[],[],0,[(4,⟨[1],⟨[.int .i64],[(0, .row 57),(1, .row 57)]⟩,[0,4,6,7],[],[0,1],0,[1],⟨[.int .i64],[(0, .row 57),(1, .row 57)]⟩,[0,1]⟩)],[],[]⟩) (exS:=⟨[.optr 0, .int .i64],[(0, .row 57)]⟩) Tryz.f228 (memC EA zx) (by kernel_rfl) (by kernel_rfl) fun x=>by kernel_rfl
theorem OP:zm Tryz.prog (lG Yp):=
 okC (A:=⟨[Yz Q5],[],[],0,[],[],[]⟩) (exS:=⟨[.bool],[]⟩) Tryz.f165 (memC CG zx) (by kernel_rfl) (by kernel_rfl) fun x=>by kernel_rfl
theorem RP:zm Tryz.prog (aG il):=
 okC (A:=⟨[lG Yp,QG zZ],[],[],0,[],[],[]⟩) (exS:=⟨[.bool],[]⟩) Tryz.f116 (memC OP (memC Q4 zx)) (by kernel_rfl) (by kernel_rfl) fun x=>by kernel_rfl
theorem Cv:zm Tryz.prog (Rq Zt):=
 okC (A:=⟨[jh zT],[],[],0,[],[],[]⟩) (exS:=⟨[.bool],[]⟩) Tryz.f229 (memC Q3 zx) (by kernel_rfl) (by kernel_rfl) fun x=>by kernel_rfl
theorem BG:zm Tryz.prog (Xz Q6):=
 okC (A:=⟨[aG il,Rq Zt,Vv qa],[],[],0,[(2,⟨[1,6],⟨[.int .i64, .str],[]⟩,[0],[],[],0,[],⟨[],[]⟩,[]⟩)],[],[]⟩) (exS:=⟨[.str, .int .i64],[]⟩) Tryz.f230 (memC RP (memC Cv (memC EA zx))) (by kernel_rfl) (by kernel_rfl) fun x=>by kernel_rfl
theorem PP:zm Tryz.prog (YG qG):=
 okC (A:=⟨[jh zT,lG Yp,Rq Zt],[],[],0,[],[],[]⟩) (exS:=⟨[.bool],[]⟩) Tryz.f231 (memC Q3 (memC OP (memC Cv zx))) (by kernel_rfl) (by kernel_rfl) fun x=>by kernel_rfl
theorem F8:zm Tryz.prog (rP yz):=
 okC (A:=⟨[jh zT,QG zZ],[],[],0,[],[(4,⟨[1],⟨[.int .i64],[]⟩,[0],[],[],0,[],⟨[],[]⟩,[]⟩),(6,⟨[1],⟨[.int .i64],[]⟩,[],[],[],0,[],⟨[],[]⟩,[]⟩)],[]⟩) (exS:=⟨[.bool],[]⟩) Tryz.f232 (memC Q3 (memC Q4 zx)) (by kernel_rfl) (by kernel_rfl) fun x=>by kernel_rfl
theorem K6:zm Tryz.prog (eO Yl):=
 okC (A:=⟨[jh zT,QG zZ],[],[],0,[(1,⟨[1],⟨[.int .i64],[]⟩,[0,4],[],[],0,[1],⟨[.int .i64],[]⟩,[]⟩)],[],[]⟩) (exS:=⟨[.int .i64],[]⟩) Tryz.f289 (memC Q3 (memC Q4 zx)) (by kernel_rfl) (by kernel_rfl) fun x=>by kernel_rfl
theorem Y7:zm Tryz.prog (xP Bv):=
 okC (A:=⟨[jh zT,eO Yl,QG zZ],[],[],0,[],[(4,⟨[1],⟨[.int .i64],[]⟩,[0],[],[],0,[],⟨[],[]⟩,[]⟩),(9,⟨[1,7],⟨[.int .i64, .bool],[]⟩,[],[],[],0,[],⟨[],[]⟩,[]⟩),(15,⟨[1,7,9],⟨[.int .i64, .bool, .int .i64],[]⟩,[],[],[],0,[],⟨[],[]⟩,[]⟩),(18,⟨[1,7],⟨[.int .i64, .bool],[]⟩,[],[],[],0,[],⟨[],[]⟩,[]⟩)],[]⟩) (exS:=⟨[.int .i64, .bool],[]⟩) Tryz.f263 (memC Q3 (memC K6 (memC Q4 zx))) (by kernel_rfl) (by kernel_rfl) fun x=>by kernel_rfl
theorem C9:zm Tryz.prog (XQ Pv):=
 okC (A:=⟨[jh zT,QG zZ],[],[],0,[(5,⟨[3,5],⟨[.str, .int .i64],[]⟩,[4],[],[],0,[3,5],⟨[.str, .int .i64],[]⟩,[]⟩),(10,⟨[3,4,5],⟨[.str, .int .i64, .int .i64],[]⟩,[],[],[],2,[3,4,5],⟨[.str, .int .i64, .int .i64],[]⟩,[]⟩),(20,⟨[5,8],⟨[.int .i64, .int .i64],[]⟩,[4],[],[],4,[8],⟨[.int .i64],[]⟩,[]⟩),(28,⟨[9,10],⟨[.int .i64, .int .i64],[]⟩,[4],[],[],6,[9],⟨[.int .i64],[]⟩,[]⟩),(31,⟨[4,9],⟨[.int .i64, .int .i64],[]⟩,[],[],[],8,[9],⟨[.int .i64],[]⟩,[]⟩)],[(5,⟨[3,4,5],⟨[.str, .int .i64, .int .i64],[]⟩,[0,6],[],[],0,[],⟨[],[]⟩,[]⟩),(14,⟨[3,4,5],⟨[.str, .int .i64, .int .i64],[]⟩,[],[],[],0,[],⟨[],[]⟩,[]⟩),(19,⟨[4,5],⟨[.int .i64, .int .i64],[]⟩,[3,7],[],[],0,[],⟨[],[]⟩,[]⟩),(25,⟨[4,8],⟨[.int .i64, .int .i64],[]⟩,[],[],[],0,[],⟨[],[]⟩,[]⟩),(26,⟨[4],⟨[.int .i64],[]⟩,[3],[],[],0,[],⟨[],[]⟩,[]⟩)],[]⟩) (exS:=⟨[.int .i64],[]⟩) Tryz.f264 (memC Q3 (memC Q4 zx)) (by kernel_rfl) (by kernel_rfl) fun x=>by kernel_rfl
theorem A7:zm Tryz.prog (jP Av):=
 okC (A:=⟨[xP Bv,XQ Pv,YG qG,Xz Q6,jh zT],[],[],0,[],[(9,⟨[6],⟨[.int .i64],[(0, .row 57),(1, .row 57)]⟩,[4,8],[],[0,1],0,[],⟨[],[]⟩,[]⟩)],[]⟩) (exS:=⟨[.optr 0, .int .i64],[(0, .row 57)]⟩) Tryz.f233 (memC Y7 (memC C9 (memC PP (memC BG (memC Q3 zx))))) (by kernel_rfl) (by kernel_rfl) fun x=>by kernel_rfl
theorem YX:zm Tryz.prog (vL Xo):=
 okC (A:=⟨[],[],[],0,[],[],[]⟩) (exS:=⟨[.bool],[]⟩) Tryz.f225 zx (by kernel_rfl) (by kernel_rfl) fun x=>by kernel_rfl
theorem wO:zm Tryz.prog (KG Qr):=
 okC (A:=⟨[JG Qs],[],[],0,[],[],[]⟩) (exS:=⟨[.bool],[]⟩) Tryz.f152 (memC vO zx) (by kernel_rfl) (by kernel_rfl) fun x=>by kernel_rfl
theorem aX:zm Tryz.prog (wL Yo):=
 okC (A:=⟨[Rq Zt,Vv qa],[],[],0,[(1,⟨[1],⟨[.int .i64],[]⟩,[0,4,5],[0],[],0,[1],⟨[.int .i64],[]⟩,[]⟩)],[],[]⟩) (exS:=⟨[.optr 0, .int .i64],[(0, .row 57)]⟩) Tryz.f290 (memC Cv (memC EA zx)) (by kernel_rfl) (by kernel_rfl) fun x=>by kernel_rfl
theorem A9:zm Tryz.prog (WQ RA):=
 okC (A:=⟨[],[],[],0,[],[],[]⟩) (exS:=⟨[.bool],[]⟩) Tryz.f291 zx (by kernel_rfl) (by kernel_rfl) fun x=>by kernel_rfl
theorem XX:zm Tryz.prog (uL Et):=
 okC (A:=⟨[rz Qf,wu qy,wL Yo,WQ RA,Rq Zt,Vv qa],[],[],0,[(3,⟨[1],⟨[.int .i64],[(0, .row 57),(1, .row 57)]⟩,[0,4,6],[],[0,1],0,[1],⟨[.int .i64],[(0, .row 57),(1, .row 57)]⟩,[0,1]⟩)],[],[]⟩) (exS:=⟨[.optr 0, .int .i64],[(0, .row 57)]⟩) Tryz.f265 (memC WG (memC AA (memC aX (memC A9 (memC Cv (memC EA zx)))))) (by kernel_rfl) (by kernel_rfl) fun x=>by kernel_rfl
theorem PZ:zm Tryz.prog (aM Yt):=
 okC (A:=⟨[Xz Q6,jh zT,KG Qr,rz Qf,uL Et],[],[],0,[],[(8,⟨[],⟨[],[(0, .row 57)]⟩,[4,6,7],[],[0],0,[],⟨[],[]⟩,[]⟩)],[]⟩) (exS:=⟨[.optr 0, .int .i64],[(0, .row 57)]⟩) Tryz.f234 (memC BG (memC Q3 (memC wO (memC WG (memC XX zx))))) (by kernel_rfl) (by kernel_rfl) fun x=>by kernel_rfl
theorem RZ:zm Tryz.prog (bM oo):=
 okC (A:=⟨[],[],[],0,[],[],[]⟩) (exS:=⟨[.int .u8],[]⟩) Tryz.f235 zx (by kernel_rfl) (by kernel_rfl) fun x=>by kernel_rfl
theorem bX:zm Tryz.prog (xL Gt):=
 okC (A:=⟨[wu qy,rz Qf,dO ku,aG il,Rq Zt,Xz Q6,YG qG,rP yz,jP Av,vL Xo,aM Yt,bM oo],[],[],0,[],[],[]⟩) (exS:=⟨[.optr 0, .int .i64],[(0, .row 57)]⟩) Tryz.f198 (memC AA (memC WG (memC J6 (memC RP (memC Cv (memC BG (memC PP (memC F8 (memC A7 (memC YX (memC PZ (memC RZ zx)))))))))))) (by kernel_rfl) (by kernel_rfl) fun x=>by kernel_rfl
theorem O4:zm Tryz.prog (BO Qt):=
 okC (A:=⟨[xL Gt],[(1,[1])],[],0,[],[],[]⟩) (exS:=⟨[.bool],[]⟩) Tryz.f188 (memC bX zx) (by kernel_rfl) (by kernel_rfl) fun x=>by kernel_rfl
theorem NZ:zm Tryz.prog (XM Wt):=
 okC (A:=⟨[AO Tj,YM Xt,BO Qt],[],[],0,[],[(6,⟨[8],⟨[.bool],[(1, .row 57)]⟩,[1,3,7],[0],[1],0,[],⟨[],[]⟩,[]⟩),(13,⟨[56],⟨[.bool],[(1, .row 57)]⟩,[],[],[1],0,[],⟨[],[]⟩,[]⟩),(21,⟨[90],⟨[.bool],[(1, .row 57)]⟩,[],[],[1],0,[],⟨[],[]⟩,[]⟩),(26,⟨[148],⟨[.bool],[]⟩,[],[1],[],0,[],⟨[],[]⟩,[]⟩)],[]⟩) (exS:=⟨[.bool],[]⟩) Tryz.f151 (memC M4 (memC OZ (memC O4 zx))) (by kernel_rfl) (by kernel_rfl) fun x=>by kernel_rfl
theorem R4:zm Tryz.prog (CO Sl):=
 okC (A:=⟨[XM Wt,KG Qr],[],[],0,[(4,⟨[3],⟨[.int .i64],[]⟩,[0],[],[],0,[],⟨[],[]⟩,[]⟩)],[(12,⟨[4],⟨[.int .i64],[]⟩,[3],[],[],0,[],⟨[],[]⟩,[]⟩),(14,⟨[],⟨[],[]⟩,[3],[],[],0,[],⟨[],[]⟩,[]⟩)],[]⟩) (exS:=⟨[.int .i64],[]⟩) Tryz.f99 (memC NZ (memC wO zx)) (by kernel_rfl) (by kernel_rfl) fun x=>by kernel_rfl
theorem V6(qE:List ze->Option Bool)(hs:zm Tryz.prog (Uv qE)):zm Tryz.prog (Uv (NA qE)):=
 okC (A:=⟨[Uv qE],[],[],0,[(2,⟨[3],⟨[.int .i64],[]⟩,[0],[],[],0,[],⟨[],[]⟩,[]⟩)],[],[]⟩) (exS:=⟨[.bool],[]⟩) Tryz.f101 (memC hs zx) (by kernel_rfl) (by kernel_rfl) fun x=>by kernel_rfl
theorem l6:zm Tryz.prog (Uv qE):=
 zm.recE (I:=I) (P:=Tryz.prog) (f:=101) (inS:=⟨[.sl 59],[]⟩) (cst:=[]) (outS:=⟨[.bool],[]⟩) (k:=0) (NA) (by kernel_rfl) (fun S h=>V6 S h)
theorem u6:zm Tryz.prog (iP yu):=
 okC (A:=⟨[],[],[],0,[(1,⟨[0],⟨[.sl 59],[]⟩,[2],[],[],0,[0],⟨[.sl 59],[]⟩,[]⟩),(3,⟨[0],⟨[.sl 59],[]⟩,[2],[],[],2,[0],⟨[.sl 59],[]⟩,[]⟩)],[],[]⟩) (exS:=⟨[.sl 59],[]⟩) Tryz.f102 zx (by kernel_rfl) (by kernel_rfl) fun x=>by kernel_rfl
theorem H6:zm Tryz.prog (cO gu):=
 okC (A:=⟨[],[],[],0,[],[],[]⟩) (exS:=⟨[.bool],[]⟩) Tryz.f103 zx (by kernel_rfl) (by kernel_rfl) fun x=>by kernel_rfl
theorem G6:zm Tryz.prog (bO fu):=
 okC (A:=⟨[yN Fu,Pq ql,CO Sl,Uv qE,iP yu,cO gu],[],[],0,[(6,⟨[5],⟨[.int .i64],[]⟩,[1],[],[],0,[],⟨[],[]⟩,[]⟩)],[],[]⟩) (exS:=⟨[.bool],[]⟩) Tryz.f60 (memC K4 (memC NP (memC R4 (memC l6 (memC u6 (memC H6 zx)))))) (by kernel_rfl) (by kernel_rfl) fun x=>by kernel_rfl
theorem uO:zm Tryz.prog (IG Sj):=
 okC (A:=⟨[wN Du,bO fu],[],[],0,[],[],[]⟩) (exS:=⟨[.int .i64],[]⟩) Tryz.f30 (memC I4 (memC G6 zx)) (by kernel_rfl) (by kernel_rfl) fun x=>by kernel_rfl
theorem V3:zm Tryz.prog (tN Au):=
 okC (A:=⟨[],[],[],0,[],[],[]⟩) (exS:=⟨[.bool],[]⟩) Tryz.f107 zx (by kernel_rfl) (by kernel_rfl) fun x=>by kernel_rfl
theorem F6:zm Tryz.prog (aO Xl):=
 okC (A:=⟨[tN Au],[],[],0,[],[],[]⟩) (exS:=⟨[.bool],[]⟩) Tryz.f65 (memC V3 zx) (by kernel_rfl) (by kernel_rfl) fun x=>by kernel_rfl
theorem U7(ZC:zh->Option Bool)(hs:zm Tryz.prog (Sv ZC)):zm Tryz.prog (Sv (OA ZC)):=
 okC (A:=⟨[IG Sj,aO Xl,Sv ZC],[],[],0,[(13,⟨[3],⟨[.int .i64],[]⟩,[],[],[],1,[],⟨[],[]⟩,[]⟩)],[(10,⟨[55],⟨[.bool],[]⟩,[1],[0],[],0,[],⟨[],[]⟩,[]⟩)],[]⟩) (exS:=⟨[.bool],[]⟩) Tryz.f64 (memC uO (memC F6 (memC hs zx))) (by kernel_rfl) (by kernel_rfl) fun x=>by kernel_rfl
theorem X7:zm Tryz.prog (Sv ZC):=
 zm.recE (I:=I) (P:=Tryz.prog) (f:=64) (inS:=⟨[.val 27],[]⟩) (cst:=[]) (outS:=⟨[.bool],[]⟩) (k:=0) (OA) (by kernel_rfl) (fun S h=>U7 S h)
theorem L8:zm Tryz.prog (KQ Tv):=
 okC (A:=⟨[Rp qh,Yu Ai,Sv ZC],[],[],0,[],[],[]⟩) (exS:=⟨[.bool],[]⟩) Tryz.f34 (memC PN (memC JZ (memC X7 zx))) (by kernel_rfl) (by kernel_rfl) fun x=>by kernel_rfl
theorem d9:zm Tryz.prog (fQ slices_Index_string):=
 okC (A:=⟨[],[],[],0,[(2,⟨[8],⟨[.int .i64],[]⟩,[0,1,7],[],[],0,[],⟨[],[]⟩,[]⟩)],[],[]⟩) (exS:=⟨[.int .i64],[]⟩) Tryz.f175 zx (by kernel_rfl) (by kernel_rfl) fun x=>by kernel_rfl
theorem zgd:zm Tryz.prog (mQ slices_Contains_string):=
 okC (A:=⟨[fQ slices_Index_string],[],[],0,[],[],[]⟩) (exS:=⟨[.bool],[]⟩) Tryz.f134 (memC d9 zx) (by kernel_rfl) (by kernel_rfl) fun x=>by kernel_rfl
theorem CP:zm Tryz.prog (OG QW):=
 okC (A:=⟨[mQ slices_Contains_string,Hq ZH,ZT strings_IndexByte],[(1,[0])],[],0,[],[],[]⟩) (exS:=⟨[.bool],[]⟩) Tryz.f92 (memC zgd (memC pu (memC qg zx))) (by kernel_rfl) (by kernel_rfl) fun x=>by kernel_rfl
theorem AP:zm Tryz.prog (MG Vj):=
 okC (A:=⟨[],[],[],0,[(2,⟨[7],⟨[.int .i64],[]⟩,[5,6],[],[],0,[],⟨[],[]⟩,[]⟩)],[],[]⟩) (exS:=⟨[.int .i64],[]⟩) Tryz.f113 zx (by kernel_rfl) (by kernel_rfl) fun x=>by kernel_rfl
theorem BP:zm Tryz.prog (NG QY):=
 okC (A:=⟨[MG Vj],[(1,[1])],[],0,[],[],[]⟩) (exS:=⟨[.int .i64],[]⟩) Tryz.f121 (memC AP zx) (by kernel_rfl) (by kernel_rfl) fun x=>by kernel_rfl
theorem BZ:zm Tryz.prog (mM Rj):=
 okC (A:=⟨[Ju ZX,OG QW,NG QY],[],[],0,[(4,⟨[23],⟨[.int .i64],[]⟩,[21,22],[],[],0,[],⟨[],[]⟩,[]⟩)],[(17,⟨[57],⟨[.bool],[]⟩,[4,23],[1],[],0,[],⟨[],[]⟩,[]⟩),(19,⟨[23],⟨[.int .i64],[]⟩,[],[],[],0,[],⟨[],[]⟩,[]⟩)],[]⟩) (exS:=⟨[.bool],[]⟩) Tryz.f80 (memC Fz (memC CP (memC BP zx))) (by kernel_rfl) (by kernel_rfl) fun x=>by kernel_rfl
theorem CZ:zm Tryz.prog (nM wo):=
 okC (A:=⟨[],[],[],0,[],[],[]⟩) (exS:=⟨[.bool],[]⟩) Tryz.f81 zx (by kernel_rfl) (by kernel_rfl) fun x=>by kernel_rfl
theorem rX:zm Tryz.prog (MM Il):=
 okC (A:=⟨[Ju ZX,mM Rj,nM wo],[],[],0,[],[],[]⟩) (exS:=⟨[.bool],[]⟩) Tryz.f46 (memC Fz (memC BZ (memC CZ zx))) (by kernel_rfl) (by kernel_rfl) fun x=>by kernel_rfl
theorem M9:zm Tryz.prog (aQ qp):=
 okC (A:=⟨[MM Il],[],[],0,[],[],[]⟩) (exS:=⟨[.bool],[]⟩) Tryz.f45 (memC rX zx) (by kernel_rfl) (by kernel_rfl) fun x=>by kernel_rfl
theorem zgB:zm Tryz.prog (rQ ZY):=
 okC (A:=⟨[aQ qp],[],[],0,[(2,⟨[8],⟨[.int .i64],[]⟩,[0,1,7],[],[],0,[],⟨[],[]⟩,[]⟩)],[],[]⟩) (exS:=⟨[.int .i64],[]⟩) Tryz.f79 (memC M9 zx) (by kernel_rfl) (by kernel_rfl) fun x=>by kernel_rfl
theorem zfh:zm Tryz.prog (AR Zi):=
 okC (A:=⟨[rQ ZY],[],[],0,[],[],[]⟩) (exS:=⟨[.bool],[]⟩) Tryz.f44 (memC zgB zx) (by kernel_rfl) (by kernel_rfl) fun x=>by kernel_rfl
theorem CQ:zm Tryz.prog (LH Z5):=
 okC (A:=⟨[AR Zi,Ju ZX],[],[],0,[],[],[]⟩) (exS:=⟨[.int .i64],[]⟩) Tryz.f16 (memC zfh (memC Fz zx)) (by kernel_rfl) (by kernel_rfl) fun x=>by kernel_rfl
theorem YF:zm Tryz.prog (Bz ah):=
 okC (A:=⟨[LH Z5,WA Ze],[],[],0,[],[],[]⟩) (exS:=⟨[.int .i64],[]⟩) Tryz.f36 (memC CQ (memC OH zx)) (by kernel_rfl) (by kernel_rfl) fun x=>by kernel_rfl
theorem D5:zm Tryz.prog (nO Wu):=
 okC (A:=⟨[],[],[],2,[],[],[]⟩) (exS:=⟨[.bool],[(0, .row 3)]⟩) Tryz.f38 zx (by kernel_rfl) (by kernel_rfl) fun x=>by kernel_rfl
theorem HY(qd:(zh×Int)×Int×List Bool->Option (Bool×Int))(hs:zm Tryz.prog (cu qd)):zm Tryz.prog (cu (Aq qd)):=
 okC (A:=⟨[nO Wu,cu qd],[],[],2,[(14,⟨[7,8,45],⟨[.bool, .bool, .int .i64],[(0, .row 3)]⟩,[1,2,3,6,43,44],[2],[0],1,[7,8],⟨[.bool, .bool],[(0, .row 3)]⟩,[0]⟩)],[],[]⟩) (exS:=⟨[.bool],[(0, .row 3)]⟩) Tryz.f37 (memC D5 (memC hs zx)) (by kernel_rfl) (by kernel_rfl) fun x=>by kernel_rfl
theorem EZ:zm Tryz.prog (cu qd):=
 zm.recE (I:=I) (P:=Tryz.prog) (f:=37) (inS:=⟨[.val 27, .int .i64, .clo 38 [0,1]],[(0, .row 3),(1, .row 30)]⟩) (cst:=[1]) (outS:=⟨[.bool],[(0, .row 3)]⟩) (k:=0) (Aq) (by kernel_rfl) (fun S h=>HY S h)
theorem VN:zm Tryz.prog (rF Yi):=
 okC (A:=⟨[Bz ah,Dm Zw,cu qd],[],[],0,[],[],[]⟩) (exS:=⟨[.bool, .int .i64],[]⟩) Tryz.f12 (memC YF (memC XF (memC EZ zx))) (by kernel_rfl) (by kernel_rfl) fun x=>by kernel_rfl
theorem TN:zm Tryz.prog (oF qx):=
 okC (A:=⟨[Zk strings_HasPrefix],[],[],0,[],[],[]⟩) (exS:=⟨[.int .i64],[]⟩) Tryz.f111 (memC Zr zx) (by kernel_rfl) (by kernel_rfl) fun x=>by kernel_rfl
theorem rG:zm Tryz.prog (LA Zv):=
 okC (A:=⟨[Tp qf,LG Ou,RL Ey],[(2,[2]),(3,[1]),(5,[1])],[],1,[],[],[]⟩) (exS:=⟨[.own 1],[(1, .sl 5)]⟩) Tryz.f159 (memC tu (memC yO (memC lW zx))) (by kernel_rfl) (by kernel_rfl) fun x=>by kernel_rfl
theorem kZ:zm Tryz.prog (dN Nu):=
 okC (A:=⟨[Nz Yh,Tp qf,LA Zv],[(6,[2])],[],0,[(2,⟨[0,11],⟨[.own 1314, .int .i64],[(1314, .sl 5)]⟩,[1,2,6,10],[],[],0,[0],⟨[.own 1314],[(1314, .sl 5)]⟩,[1314]⟩)],[(8,⟨[0,11],⟨[.own 1416, .int .i64],[(1416, .sl 5)]⟩,[],[],[],0,[],⟨[],[]⟩,[]⟩)],[]⟩) (exS:=⟨[.own 0],[(0, .sl 5)]⟩) Tryz.f110 (memC VF (memC tu (memC rG zx))) (by kernel_rfl) (by kernel_rfl) fun x=>by kernel_rfl
theorem xM:zm Tryz.prog (bE Kl):=
 okC (A:=⟨[ZT strings_IndexByte,oF qx,dN Nu],[],[],0,[],[],[]⟩) (exS:=⟨[.str, .int .i64],[]⟩) Tryz.f67 (memC qg (memC TN (memC kZ zx))) (by kernel_rfl) (by kernel_rfl) fun x=>by kernel_rfl
theorem F7:zm Tryz.prog (mP qC):=
 okC (A:=⟨[],[],[],2,[],[],[]⟩) (exS:=⟨[],[(0, .row 3),(1, .sl 5)]⟩) Tryz.f114 zx (by kernel_rfl) (by kernel_rfl) fun x=>by kernel_rfl
theorem lZ:zm Tryz.prog (gN Ru):=
 okC (A:=⟨[MG Vj,mP qC],[(1,[1]),(7,[200000])],[],0,[(12,⟨[9,26],⟨[.int .i64, .int .i64],[(1, .sl 5),(2, .row 3)]⟩,[0,6,7,8],[],[1,2],0,[],⟨[],[(1, .sl 5),(2, .row 3)]⟩,[1,2]⟩),(23,⟨[0],⟨[.int .i64],[(1, .sl 5),(2, .row 3)]⟩,[6,7,8],[],[1,2],2,[],⟨[],[(1, .sl 5),(2, .row 3)]⟩,[1,2]⟩)],[(7,⟨[0],⟨[.int .i64],[]⟩,[5],[],[],0,[],⟨[],[]⟩,[]⟩),(17,⟨[9],⟨[.int .i64],[(1, .sl 5),(2, .row 3)]⟩,[10,26],[],[1,2],0,[],⟨[],[]⟩,[]⟩),(20,⟨[9,26],⟨[.int .i64, .int .i64],[(1, .sl 5),(2, .row 3)]⟩,[],[],[1,2],0,[],⟨[],[]⟩,[]⟩),(27,⟨[],⟨[],[(1, .sl 5),(2, .row 3)]⟩,[6,7],[],[1,2],0,[],⟨[],[]⟩,[]⟩)],[]⟩) (exS:=⟨[.str, .int .i64],[]⟩) Tryz.f69 (memC AP (memC F7 zx)) (by kernel_rfl) (by kernel_rfl) fun x=>by kernel_rfl
end Go.Lv.VT
end
