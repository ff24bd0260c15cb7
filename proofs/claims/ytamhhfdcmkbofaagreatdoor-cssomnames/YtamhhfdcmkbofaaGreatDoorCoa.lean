/- Contracts. -/
import Derived.Test.YtamhhfdcmkbofaaGreatDoorTx
import Derived.Test.YtamhhfdcmkbofaaGreatDoorIp
import Derived.Test.YtamhhfdcmkbofaaGreatDoorLf
import Derived.Test.YtamhhfdcmkbofaaGreatDoorPa
import Derived.Test.YtamhhfdcmkbofaaGreatDoorCw
noncomputable section
set_option linter.unusedSimpArgs false
set_option linter.unusedVariables false
namespace Go.Lv.VT
set_option maxRecDepth 100000
open Go.Proofs
theorem alt2 {T U V W:Type} {A B:T->Option U} {t:Option V} {c:V->Bool} {p:V->Option W} {d:W->Bool} {x:T} {y:U}
  (h:(za t fun v=>bif c v then za (A x) fun z=>some z else za (p v) fun w=>bif d w then za (A x) fun z=>some z else za (B x) fun z=>some z)=some y): ∃n:Bool,(cond n A B) x=some y:=by
 have key: ∀o:Option U,za o (fun z=>some z)=some y->o=some y:=fun o=>by cases o<;>exact id
 cases t with
 |none=>cases h
 |some v=>
  replace h:(bif c v then za (A x) fun z=>some z else za (p v) fun w=>bif d w then za (A x) fun z=>some z else za (B x) fun z=>some z)=some y:=h;cases hc:c v<;>rw[hc]at h
  ·replace h:(za (p v) fun w=>bif d w then za (A x) fun z=>some z else za (B x) fun z=>some z)=some y:=h;cases hp:p v with
   |none=>rw[hp]at h;cases h
   |some w=>
    rw[hp]at h;replace h:(bif d w then za (A x) fun z=>some z else za (B x) fun z=>some z)=some y:=h;cases hd:d w<;>rw[hd]at h
    ·exact⟨false,key _ h⟩
    ·exact⟨true,key _ h⟩
  ·exact⟨true,key _ h⟩
theorem okC{con:Con I}{S:List (Con I)}(f:Go.Func)(hS: ∀c∈S,zf Tryz.prog c)(fz:List (Nat×List Nat):=[])(pre:List (Nat×List (Nat×Option Nat)):=[])(p:Nat:=0)(cuts:List (Nat×Cut):=[])(joins:List (Nat×Cut):=[])(cls:List (Nat×List Nat):=[])(fl:Option Nat:=none)(exS:StSh:=con.outS)(hf:Tryz.prog.funcs[con.f]? =some f:=by kernel_rfl)(h:chk con (⟨S,fz,pre,p,cuts,joins,cls,fl⟩:Env0 I) f=true:=by kernel_rfl)(he: ∀x,evF2 (⟨S,fz,pre,p,cuts,joins,cls,fl⟩:Env0 I) T FK f.ntmps (rsl f) (body f) con exS x=con.F x:=by intro x;kernel_rfl):zf Tryz.prog con:=
 okC0 mixed ipOK tok rfl rfl hS hf h he
theorem ic(c:Con I)(B:((c.inS.sl I).T->Option (c.outS.sl I).T)->(c.inS.sl I).T->Option (c.outS.sl I).T)(hB: ∀S,zf Tryz.prog (⟨c.f,c.inS,c.cst,c.outS,c.k,S⟩:Con I)->zf Tryz.prog (⟨c.f,c.inS,c.cst,c.outS,c.k,B S⟩:Con I))(n:Nat)(hwf:Be (⟨c.f,c.inS,c.cst,c.outS,c.k,fun _=>Option.none⟩:Con I)=true:=by kernel_rfl):zf Tryz.prog (⟨c.f,c.inS,c.cst,c.outS,c.k,QL B n⟩:Con I):=zf.iter B hwf hB n
def KU(F:Str×Int->Option Int):Con I:=⟨105,⟨[.str, .int .u8],[]⟩,[],⟨[.int .i64],[]⟩,0,F⟩
def aS(F:Str->Option Bool):Con I:=⟨104,⟨[.str],[]⟩,[],⟨[.bool],[]⟩,0,F⟩
def dY(F:List Str->Option Int):Con I:=⟨158,⟨[.sl 9, .clo 104 []],[]⟩,[],⟨[.int .i64],[]⟩,0,F⟩
def xY(F:List Str->Option Bool):Con I:=⟨103,⟨[.sl 9, .clo 104 []],[]⟩,[],⟨[.bool],[]⟩,0,F⟩
def gP(F:List Str->Option Bool):Con I:=⟨73,⟨[.sl 9],[]⟩,[],⟨[.bool],[]⟩,0,F⟩
def oP(F:List Str->Option Bool):Con I:=⟨72,⟨[.sl 9],[]⟩,[],⟨[.bool],[]⟩,0,F⟩
def GY(F:List (List Str)->Option Int):Con I:=⟨102,⟨[.sl 50, .clo 72 []],[]⟩,[],⟨[.int .i64],[]⟩,0,F⟩
def TY(F:List (List Str)->Option Bool):Con I:=⟨71,⟨[.sl 50, .clo 72 []],[]⟩,[],⟨[.bool],[]⟩,0,F⟩
def Q5(F:List zh->Option Int):Con I:=⟨74,⟨[.sl 74],[]⟩,[],⟨[.int .i64],[]⟩,0,F⟩
def wP(F:Str×Int->Option Bool):Con I:=⟨252,⟨[.str, .int .i64],[]⟩,[],⟨[.bool],[]⟩,0,F⟩
def yR(F:Str->Option Bool):Con I:=⟨248,⟨[.str],[]⟩,[],⟨[.bool],[]⟩,0,F⟩
def IP(F:Str->Option Str):Con I:=⟨63,⟨[.str],[]⟩,[],⟨[.str],[]⟩,0,F⟩
def bS(F:Str->Option Bool):Con I:=⟨211,⟨[.str],[]⟩,[],⟨[.bool],[]⟩,0,F⟩
def BS(F:zy->Option (Bool×Bool)):Con I:=⟨249,⟨[.val 78],[]⟩,[],⟨[.bool, .bool],[]⟩,0,F⟩
def YT(F:zg×Int->Option (zg×Bool)):Con I:=⟨250,⟨[.val 183, .int .u8],[]⟩,[],⟨[.val 183, .bool],[]⟩,0,F⟩
def sM(F:Int->Option Bool):Con I:=⟨287,⟨[.int .i64],[]⟩,[],⟨[.bool],[]⟩,0,F⟩
def OM(F:VAnb->Option Int):Con I:=⟨253,⟨[.val 76],[]⟩,[],⟨[.int .i64],[]⟩,0,F⟩
def XT(F:zh×zg×zy->Option Bool):Con I:=⟨251,⟨[.val 74, .optr 0, .optr 1],[(0, .row 183),(1, .row 78)]⟩,[0,1],⟨[.bool],[]⟩,0,F⟩
def SY(F:List zh×zg×zy->Option Int):Con I:=⟨160,⟨[.sl 74, .clo 251 [0,1]],[(0, .row 183),(1, .row 78)]⟩,[0,1],⟨[.int .i64],[]⟩,0,F⟩
def GZ(F:List zh×zg×zy->Option Bool):Con I:=⟨106,⟨[.sl 74, .clo 251 [0,1]],[(0, .row 183),(1, .row 78)]⟩,[0,1],⟨[.bool],[]⟩,0,F⟩
def rR(F:zy×zg->Option Bool):Con I:=⟨212,⟨[.val 78, .val 183],[]⟩,[],⟨[.bool],[]⟩,0,F⟩
def bT(F:zB×zg->Option Bool):Con I:=⟨163,⟨[.val 71, .val 183],[]⟩,[],⟨[.bool],[]⟩,0,F⟩
def yS(F:zB×zg->Option Bool):Con I:=⟨162,⟨[.val 71, .optr 0],[(0, .row 183)]⟩,[0],⟨[.bool],[]⟩,0,F⟩
def eY(F:List zB×zg->Option Int):Con I:=⟨210,⟨[.sl 71, .clo 162 [0]],[(0, .row 183)]⟩,[0],⟨[.int .i64],[]⟩,0,F⟩
def yY(F:List zB×zg->Option Bool):Con I:=⟨161,⟨[.sl 71, .clo 162 [0]],[(0, .row 183)]⟩,[0],⟨[.bool],[]⟩,0,F⟩
def Zj(F:zh×zg×Bool->Option Bool):Con I:=⟨108,⟨[.val 74, .val 183, .bool],[]⟩,[],⟨[.bool],[]⟩,0,F⟩
def wT(F:zh->Option Bool):Con I:=⟨107,⟨[.val 74],[]⟩,[],⟨[.bool],[]⟩,0,F⟩
def lX(F:List zh->Option Int):Con I:=⟨160,⟨[.sl 74, .clo 107 []],[]⟩,[],⟨[.int .i64],[]⟩,0,F⟩
def tY(F:List zh->Option Bool):Con I:=⟨106,⟨[.sl 74, .clo 107 []],[]⟩,[],⟨[.bool],[]⟩,0,F⟩
def Xn(F:List zh->Option Int):Con I:=⟨109,⟨[.sl 74],[]⟩,[],⟨[.int .i64],[]⟩,0,F⟩
def CS(F:List zh->Option Int):Con I:=⟨75,⟨[.sl 74],[]⟩,[],⟨[.int .i64],[]⟩,0,F⟩
def jP(F:zm->Option Bool):Con I:=⟨76,⟨[.val 42],[]⟩,[],⟨[.bool],[]⟩,0,F⟩
def BP(F:Int->Option Int):Con I:=⟨61,⟨[.int .u8],[]⟩,[],⟨[.int .u8],[]⟩,0,F⟩
def Wm(F:List ze×Int->Option Zd):Con I:=⟨111,⟨[.sl 133, .int .u8],[]⟩,[],⟨[.val 187],[]⟩,0,F⟩
def XN(F:List ze->Option Int):Con I:=⟨110,⟨[.sl 133],[]⟩,[],⟨[.int .i64],[]⟩,0,F⟩
def WN(F:List ze->Option (Int×Int)):Con I:=⟨77,⟨[.sl 133],[]⟩,[],⟨[.int .i64, .int .i64],[]⟩,0,F⟩
def Tn(F:List ze×List zt->Option (List zt)):Con I:=⟨164,⟨[.own 0, .sl 133],[(0, .sl 129)]⟩,[],⟨[.own 1],[(1, .sl 129)]⟩,1,F⟩
def AP(F:List ze->Option (List zt)):Con I:=⟨164,⟨[.nilv, .sl 133],[]⟩,[],⟨[.own 0],[(0, .sl 129)]⟩,1,F⟩
def iM(F:List ze->Option (List zt×Int)):Con I:=⟨112,⟨[.sl 133],[]⟩,[],⟨[.sl 129, .int .i64],[]⟩,0,F⟩
def PX(F:Str×Str->Option Bool):Con I:=⟨168,⟨[.str, .str],[]⟩,[],⟨[.bool],[]⟩,0,F⟩
def LU(F:Str×Str->Option Bool):Con I:=⟨120,⟨[.str, .str],[]⟩,[],⟨[.bool],[]⟩,0,F⟩
def nN(F:Str->Option Bool):Con I:=⟨113,⟨[.str],[]⟩,[],⟨[.bool],[]⟩,0,F⟩
def nX(F:Str×Str->Option Str):Con I:=⟨288,⟨[.str, .str],[]⟩,[],⟨[.str],[]⟩,0,F⟩
def vU(F:Str×Str->Option Str):Con I:=⟨254,⟨[.str, .str],[]⟩,[],⟨[.str],[]⟩,0,F⟩
def iN(F:Int->Option Bool):Con I:=⟨226,⟨[.int .u8],[]⟩,[],⟨[.bool],[]⟩,0,F⟩
def IQ(F:Str->Option Bool):Con I:=⟨213,⟨[.str],[]⟩,[],⟨[.bool],[]⟩,0,F⟩
def OP(F:Int->Option Bool):Con I:=⟨255,⟨[.int .u8],[]⟩,[],⟨[.bool],[]⟩,0,F⟩
def bN(F:Int->Option Bool):Con I:=⟨214,⟨[.int .u8],[]⟩,[],⟨[.bool],[]⟩,0,F⟩
def WT(F:Str×Str->Option Bool):Con I:=⟨215,⟨[.str, .str],[]⟩,[],⟨[.bool],[]⟩,0,F⟩
def lM(F:zt->Option Bool):Con I:=⟨165,⟨[.val 129],[]⟩,[],⟨[.bool],[]⟩,0,F⟩
def GQ(F:(Int×Int)×List zt->Option Bool):Con I:=⟨216,⟨[.int .i64, .int .u8, .optr 0],[(0, .row 104)]⟩,[0],⟨[.bool],[]⟩,0,F⟩
def JP(F:Str×Str->Option Bool):Con I:=⟨197,⟨[.str, .str],[]⟩,[],⟨[.bool],[]⟩,0,F⟩
def aN(F:List zt->Option Int):Con I:=⟨166,⟨[.sl 129],[]⟩,[],⟨[.int .i64],[]⟩,0,F⟩
def kN(F:List zt->Option Int):Con I:=⟨114,⟨[.sl 129],[]⟩,[],⟨[.int .i64],[]⟩,0,F⟩
def bK(F:ze×Int->Option Bool):Con I:=⟨118,⟨[.val 133, .int .u8],[]⟩,[],⟨[.bool],[]⟩,0,F⟩
def wR(F:ze->Option Bool):Con I:=⟨167,⟨[.val 133],[]⟩,[],⟨[.bool],[]⟩,0,F⟩
def pX(F:List ze->Option Int):Con I:=⟨94,⟨[.sl 133, .clo 167 []],[]⟩,[],⟨[.int .i64],[]⟩,0,F⟩
def gY(F:List ze->Option Bool):Con I:=⟨116,⟨[.sl 133, .clo 167 []],[]⟩,[],⟨[.bool],[]⟩,0,F⟩
def qG(F:List ze->Option Bool):Con I:=⟨115,⟨[.sl 133],[]⟩,[],⟨[.bool],[]⟩,0,F⟩
def oM(F:ze->Option Bool):Con I:=⟨119,⟨[.val 133],[]⟩,[],⟨[.bool],[]⟩,0,F⟩
def JQ(F:ze->Option Bool):Con I:=⟨117,⟨[.val 133],[]⟩,[],⟨[.bool],[]⟩,0,F⟩
def kX(F:List ze->Option Int):Con I:=⟨94,⟨[.sl 133, .clo 117 []],[]⟩,[],⟨[.int .i64],[]⟩,0,F⟩
def rY(F:List ze->Option Bool):Con I:=⟨116,⟨[.sl 133, .clo 117 []],[]⟩,[],⟨[.bool],[]⟩,0,F⟩
def oN(F:zQ->Option Int):Con I:=⟨78,⟨[.val 39],[]⟩,[],⟨[.int .i64],[]⟩,0,F⟩
def Sn(F:zm->Option Int):Con I:=⟨79,⟨[.val 42],[]⟩,[],⟨[.int .i64],[]⟩,0,F⟩
def LM(F:zm->Option Bool):Con I:=⟨124,⟨[.val 42],[]⟩,[],⟨[.bool],[]⟩,0,F⟩
def jV(F:List Str×Str->Option Int):Con I:=⟨286,⟨[.sl 9, .str],[]⟩,[],⟨[.int .i64],[]⟩,0,F⟩
def rX(F:List Str×Str->Option Bool):Con I:=⟨246,⟨[.sl 9, .str],[]⟩,[],⟨[.bool],[]⟩,0,F⟩
def XP(F:Str->Option Bool):Con I:=⟨206,⟨[.str],[]⟩,[],⟨[.bool],[]⟩,0,F⟩
def PP(F:List Int->Option Int):Con I:=⟨224,⟨[.sl 2],[]⟩,[],⟨[.int .i64],[]⟩,0,F⟩
def VP(F:Int->Option Int):Con I:=⟨217,⟨[.int .i64],[]⟩,[],⟨[.int .i64],[]⟩,0,F⟩
def tN(F:zm->Option Bool):Con I:=⟨170,⟨[.val 42],[]⟩,[],⟨[.bool],[]⟩,0,F⟩
def uN(F:zm->Option Bool):Con I:=⟨171,⟨[.val 42],[]⟩,[],⟨[.bool],[]⟩,0,F⟩
def MM(F:zm->Option Bool):Con I:=⟨123,⟨[.val 42],[]⟩,[],⟨[.bool],[]⟩,0,F⟩
def UU(F:zm->Option Bool):Con I:=⟨122,⟨[.val 42],[]⟩,[],⟨[.bool],[]⟩,0,F⟩
def VX(F:List zm->Option Int):Con I:=⟨169,⟨[.sl 42, .clo 122 []],[]⟩,[],⟨[.int .i64],[]⟩,0,F⟩
def mX(F:List zm->Option Bool):Con I:=⟨121,⟨[.sl 42, .clo 122 []],[]⟩,[],⟨[.bool],[]⟩,0,F⟩
def DU(F:zm->Option Int):Con I:=⟨80,⟨[.val 42],[]⟩,[],⟨[.int .i64],[]⟩,0,F⟩
def ym(F:zm->Option Int):Con I:=⟨81,⟨[.val 42],[]⟩,[],⟨[.int .i64],[]⟩,0,F⟩
def JM(F:zm->Option Bool):Con I:=⟨172,⟨[.val 42],[]⟩,[],⟨[.bool],[]⟩,0,F⟩
def Xm(F:zm×Int->Option ((Int×Bool)×Int)):Con I:=⟨125,⟨[.val 42, .optr 0],[(0, .row 3)]⟩,[],⟨[.int .i64, .bool],[(0, .row 3)]⟩,0,F⟩
def BV(F:zm->Option Int):Con I:=⟨82,⟨[.val 42],[]⟩,[],⟨[.int .i64],[]⟩,0,F⟩
def Bn(F:List zA->Option zK):Con I:=⟨50,⟨[.sl 45],[]⟩,[],⟨[.val 113],[]⟩,0,F⟩
def kP(F:List zA->Option Int):Con I:=⟨34,⟨[.sl 45],[]⟩,[],⟨[.int .i64],[]⟩,0,F⟩
def mP(F:Zi->Option Int):Con I:=⟨23,⟨[.val 49],[]⟩,[],⟨[.int .i64],[]⟩,0,F⟩
def dP(F:zZ->Option Int):Con I:=⟨19,⟨[.val 24],[]⟩,[],⟨[.int .i64],[]⟩,0,F⟩
def IY(F:zb->Option zb):Con I:=⟨92,⟨[.optr 0],[(0, .row 167)]⟩,[],⟨[],[(0, .row 167)]⟩,0,F⟩
def pU(F:Int×zb->Option Int):Con I:=⟨138,⟨[.optr 0, .int .i64],[(0, .row 167)]⟩,[0],⟨[.int .i64],[]⟩,0,F⟩
def JO(F:Int->Option Bool):Con I:=⟨139,⟨[.int .i64],[]⟩,[],⟨[.bool],[]⟩,0,F⟩
def fV(F:zb->Option zb):Con I:=⟨140,⟨[.optr 0, .clo 139 []],[(0, .row 167)]⟩,[],⟨[],[(0, .row 167)]⟩,0,F⟩
def YY(F:Int->Option (List UInt8)):Con I:=⟨271,⟨[.nilv, .int .i32],[]⟩,[],⟨[.own 0],[(0, .sl 5)]⟩,1,F⟩
def FU(F:Int->Option (List UInt8)):Con I:=⟨236,⟨[.nilv, .int .i32],[]⟩,[],⟨[.own 0],[(0, .sl 5)]⟩,1,F⟩
def mQ(F:Int×Int×Int->Option Bool):Con I:=⟨238,⟨[.int .i64, .int .i64, .int .i64],[]⟩,[],⟨[.bool],[]⟩,0,F⟩
def bP(F:Int->Option Bool):Con I:=⟨194,⟨[.int .i64],[]⟩,[],⟨[.bool],[]⟩,0,F⟩
def dL(F:Int->Option Int):Con I:=⟨237,⟨[.int .i64],[]⟩,[],⟨[.int .i64],[]⟩,0,F⟩
def FY(F:zb->Option (zb×List UInt8)):Con I:=⟨192,⟨[.optr 0, .nilv],[(0, .row 167)]⟩,[],⟨[.own 1],[(0, .row 167),(1, .sl 5)]⟩,1,F⟩
def XY(F:Int×List UInt8->Option (List UInt8)):Con I:=⟨271,⟨[.own 0, .int .i32],[(0, .sl 5)]⟩,[],⟨[.own 1],[(1, .sl 5)]⟩,1,F⟩
def EU(F:Int×List UInt8->Option (List UInt8)):Con I:=⟨236,⟨[.own 0, .int .i32],[(0, .sl 5)]⟩,[],⟨[.own 1],[(1, .sl 5)]⟩,1,F⟩
def EY(F:zb×List UInt8->Option (zb×List UInt8)):Con I:=⟨192,⟨[.optr 0, .own 1],[(0, .row 167),(1, .sl 5)]⟩,[],⟨[.own 2],[(0, .row 167),(2, .sl 5)]⟩,1,F⟩
def XW(F:zb->Option (zt×zb)):Con I:=⟨141,⟨[.optr 0],[(0, .row 167)]⟩,[],⟨[.val 129],[(0, .row 167)]⟩,0,F⟩
def aP(F:Int->Option Bool):Con I:=⟨193,⟨[.int .i64],[]⟩,[],⟨[.bool],[]⟩,0,F⟩
def oQ(F:Int->Option Bool):Con I:=⟨142,⟨[.int .i64],[]⟩,[],⟨[.bool],[]⟩,0,F⟩
def aW(F:Int×zb->Option Bool):Con I:=⟨143,⟨[.optr 0, .int .i64],[(0, .row 167)]⟩,[0],⟨[.bool],[]⟩,0,F⟩
def sU(F:Int×zb->Option Bool):Con I:=⟨144,⟨[.optr 0, .int .i64],[(0, .row 167)]⟩,[0],⟨[.bool],[]⟩,0,F⟩
def oU(F:zb->Option (Str×zb)):Con I:=⟨145,⟨[.optr 0],[(0, .row 167)]⟩,[],⟨[.str],[(0, .row 167)]⟩,0,F⟩
def YW(F:zb->Option Bool):Con I:=⟨146,⟨[.optr 0],[(0, .row 167)]⟩,[0],⟨[.bool],[]⟩,0,F⟩
def JX(F:zb->Option zb):Con I:=⟨140,⟨[.optr 0, .clo 194 []],[(0, .row 167)]⟩,[],⟨[],[(0, .row 167)]⟩,0,F⟩
def MX(F:zb->Option (Bool×zb)):Con I:=⟨195,⟨[.optr 0],[(0, .row 167)]⟩,[],⟨[.bool],[(0, .row 167)]⟩,0,F⟩
def GU(F:Str->Option Int):Con I:=⟨196,⟨[.str],[]⟩,[],⟨[.int .i64],[]⟩,0,F⟩
def KX(F:zb->Option (zt×zb)):Con I:=⟨147,⟨[.optr 0],[(0, .row 167)]⟩,[],⟨[.val 129],[(0, .row 167)]⟩,0,F⟩
def JU(F:zb->Option (zt×zb)):Con I:=⟨242,⟨[.optr 0],[(0, .row 167)]⟩,[],⟨[.val 129],[(0, .row 167)]⟩,0,F⟩
def IU(F:zb->Option (zt×zb)):Con I:=⟨198,⟨[.optr 0],[(0, .row 167)]⟩,[],⟨[.val 129],[(0, .row 167)]⟩,0,F⟩
def gV(F:zb->Option (zt×zb)):Con I:=⟨148,⟨[.optr 0],[(0, .row 167)]⟩,[],⟨[.val 129],[(0, .row 167)]⟩,0,F⟩
def rU(F:zb->Option (zt×zb)):Con I:=⟨93,⟨[.optr 0],[(0, .row 167)]⟩,[],⟨[.val 129],[(0, .row 167)]⟩,0,F⟩
def UT(F:(zt×Int×Int)×List zt->Option (List zt)):Con I:=⟨59,⟨[.val 129, .int .i64, .int .i64, .optr 0],[(0, .cells 104 [.own 1]),(1, .sl 129)]⟩,[],⟨[],[(0, .cells 104 [.own 2]),(2, .sl 129)]⟩,1,F⟩
def nQ(F:Str->Option (Int×List zt)):Con I:=⟨58,⟨[.str, .clo 59 [0]],[(0, .cells 104 [.nilv])]⟩,[],⟨[.int .i64],[(0, .cells 104 [.own 1]),(1, .sl 129)]⟩,1,F⟩
def pQ(F:Str->Option (List zt×Int)):Con I:=⟨42,⟨[.str],[]⟩,[],⟨[.sl 129, .int .i64],[]⟩,0,F⟩
def MN(F:List ze->Option Int):Con I:=⟨62,⟨[.sl 133],[]⟩,[],⟨[.int .u8],[]⟩,0,F⟩
def wU(F:Int×List UInt8->Option Int):Con I:=⟨149,⟨[.own 0, .int .u8],[(0, .sl 5)]⟩,[0],⟨[.int .i64],[]⟩,0,F⟩
def WX(F:Int×List UInt8->Option Bool):Con I:=⟨96,⟨[.own 0, .int .u8],[(0, .sl 5)]⟩,[0],⟨[.bool],[]⟩,0,F⟩
def WS(F:ze×List UInt8->Option Bool):Con I:=⟨95,⟨[.val 133, .optr 0],[(0, .cells 30 [.own 1]),(1, .sl 5)]⟩,[0,1],⟨[.bool],[]⟩,0,F⟩
def jX(F:List ze×List UInt8->Option Int):Con I:=⟨94,⟨[.sl 133, .clo 95 [0]],[(0, .cells 30 [.own 1]),(1, .sl 5)]⟩,[0,1],⟨[.int .i64],[]⟩,0,F⟩
def eP(F:List ze×List UInt8->Option (List ze×List ze)):Con I:=⟨64,⟨[.sl 133, .own 0],[(0, .sl 5)]⟩,[0],⟨[.sl 133, .sl 133],[]⟩,0,F⟩
def mV(F:Int×zk->Option zt):Con I:=⟨282,⟨[.optr 0, .int .i64],[(0, .row 361)]⟩,[0],⟨[.val 129],[]⟩,0,F⟩
def YX(F:zk->Option (Bool×zk)):Con I:=⟨280,⟨[.optr 0],[(0, .row 361)]⟩,[],⟨[.bool],[(0, .row 361)]⟩,0,F⟩
def kW(F:Str×zk->Option (Bool×zk)):Con I:=⟨283,⟨[.optr 0, .str],[(0, .row 361)]⟩,[],⟨[.bool],[(0, .row 361)]⟩,0,F⟩
def jW(F:zk->Option (Int×zk)):Con I:=⟨281,⟨[.optr 0],[(0, .row 361)]⟩,[],⟨[.int .u8],[(0, .row 361)]⟩,0,F⟩
def gW(F:Int×zk->Option (List ze)):Con I:=⟨305,⟨[.optr 0, .int .i64],[(0, .row 361)]⟩,[0],⟨[.sl 133],[]⟩,0,F⟩
def iW(F:zk->Option Bool):Con I:=⟨285,⟨[.optr 0],[(0, .row 361)]⟩,[0],⟨[.bool],[]⟩,0,F⟩
def yP(F:List ze->Option (zy×Bool)):Con I:=⟨304,⟨[.sl 133],[]⟩,[],⟨[.val 78, .bool],[]⟩,0,F⟩
def xR(F:Unit->Option (List Str)):Con I:=⟨220,⟨[],[]⟩,[],⟨[.sl 9],[]⟩,0,F⟩
def xP(F:Str->Option (zy×Bool)):Con I:=⟨306,⟨[.str],[]⟩,[],⟨[.val 78, .bool],[]⟩,0,F⟩
def dS(F:ze->Option Bool):Con I:=⟨342,⟨[.val 133],[]⟩,[],⟨[.bool],[]⟩,0,F⟩
def iX(F:List ze->Option Int):Con I:=⟨94,⟨[.sl 133, .clo 342 []],[]⟩,[],⟨[.int .i64],[]⟩,0,F⟩
def tO(F:zy×List ze×zg->Option (zy×Bool)):Con I:=⟨325,⟨[.val 78, .sl 133, .val 183],[]⟩,[],⟨[.val 78, .bool],[]⟩,0,F⟩
def aT(F:Str×List ze×zg->Option (zy×Bool)):Con I:=⟨307,⟨[.str, .sl 133, .val 183],[]⟩,[],⟨[.val 78, .bool],[]⟩,0,F⟩
def tX(F:zg×zk->Option ((List zy×Bool)×zk)):Con I:=⟨284,⟨[.optr 0, .val 183],[(0, .row 361)]⟩,[],⟨[.sl 78, .bool],[(0, .row 361)]⟩,0,F⟩
def NU(F:List ze×zg×Bool->Option (zh×Bool)):Con I:=⟨243,⟨[.sl 133, .val 183, .bool],[]⟩,[],⟨[.val 74, .bool],[]⟩,0,F⟩
def ZM(F:List ze×zg×Bool×Bool->Option (List zh×Bool)):Con I:=⟨199,⟨[.sl 133, .val 183, .bool, .bool],[]⟩,[],⟨[.sl 74, .bool],[]⟩,0,F⟩
def RN(F:List ze->Option (List zh×Int)):Con I:=⟨150,⟨[.sl 133],[]⟩,[],⟨[.sl 74, .int .i64],[]⟩,0,F⟩
def lF(F:List ze->Option (List ze)):Con I:=⟨101,⟨[.sl 133],[]⟩,[],⟨[.own 0],[(0, .sl 133)]⟩,1,F⟩
def Vm(F:List ze->Option (List ze)):Con I:=⟨201,⟨[.sl 133],[]⟩,[],⟨[.sl 133],[]⟩,0,F⟩
def VN(F:List ze×Int->Option (List (List ze)×Int)):Con I:=⟨152,⟨[.sl 133, .int .u8],[]⟩,[],⟨[.sl 37, .int .i64],[]⟩,0,F⟩
def nM(F:List ze->Option (List ze)):Con I:=⟨245,⟨[.sl 133],[]⟩,[],⟨[.sl 133],[]⟩,0,F⟩
def lN(F:List ze->Option (List ze)):Con I:=⟨244,⟨[.sl 133],[]⟩,[],⟨[.sl 133],[]⟩,0,F⟩
def CP(F:Int×List ze->Option Bool):Con I:=⟨202,⟨[.int .i64, .optr 0],[(0, .row 37)]⟩,[0],⟨[.bool],[]⟩,0,F⟩
def fM(F:List ze->Option (List ze×Int)):Con I:=⟨153,⟨[.sl 133],[]⟩,[],⟨[.sl 133, .int .i64],[]⟩,0,F⟩
def vK(F:List ze->Option (zQ×Bool)):Con I:=⟨200,⟨[.sl 133],[]⟩,[],⟨[.val 39, .bool],[]⟩,0,F⟩
def cK(F:List ze->Option (List zQ×Int)):Con I:=⟨151,⟨[.sl 133],[]⟩,[],⟨[.sl 39, .int .i64],[]⟩,0,F⟩
def fP(F:List ze×List ze->Option (zA×Bool)):Con I:=⟨97,⟨[.sl 133, .sl 133],[]⟩,[],⟨[.val 45, .bool],[]⟩,0,F⟩
def bY(F:List Str->Option Int):Con I:=⟨158,⟨[.own 0, .clo 104 []],[(0, .sl 9)]⟩,[0],⟨[.int .i64],[]⟩,0,F⟩
def wY(F:List Str->Option Bool):Con I:=⟨103,⟨[.own 0, .clo 104 []],[(0, .sl 9)]⟩,[0],⟨[.bool],[]⟩,0,F⟩
def YS(F:List Str->Option Bool):Con I:=⟨73,⟨[.own 0],[(0, .sl 9)]⟩,[0],⟨[.bool],[]⟩,0,F⟩
def KN(F:List ze->Option (List Str×Bool)):Con I:=⟨154,⟨[.sl 133],[]⟩,[],⟨[.sl 9, .bool],[]⟩,0,F⟩
def iP(F:List ze×Bool->Option (zA×Bool)):Con I:=⟨98,⟨[.sl 133, .bool],[]⟩,[],⟨[.val 45, .bool],[]⟩,0,F⟩
def mU(F:zo->Option Int):Con I:=⟨203,⟨[.optr 0],[(0, .row 230)]⟩,[0],⟨[.int .u8],[]⟩,0,F⟩
def lU(F:zo->Option (ze×zo)):Con I:=⟨204,⟨[.optr 0],[(0, .row 230)]⟩,[],⟨[.val 133],[(0, .row 230)]⟩,0,F⟩
def AV(F:zo->Option (Bool×zo)):Con I:=⟨155,⟨[.optr 0],[(0, .row 230)]⟩,[],⟨[.bool],[(0, .row 230)]⟩,0,F⟩
def jU(F:List Str×zo->Option (Str×zo)):Con I:=⟨205,⟨[.optr 0, .sl 9],[(0, .row 230)]⟩,[],⟨[.str],[(0, .row 230)]⟩,0,F⟩
def mW(F:zo->Option ((zm×Bool)×zo)):Con I:=⟨207,⟨[.optr 0],[(0, .row 230)]⟩,[],⟨[.val 42, .bool],[(0, .row 230)]⟩,0,F⟩
def TU(F:zo->Option ((zm×Bool)×zo)):Con I:=⟨156,⟨[.optr 0],[(0, .row 230)]⟩,[],⟨[.val 42, .bool],[(0, .row 230)]⟩,0,F⟩
def rM(F:List ze->Option (zm×Int)):Con I:=⟨99,⟨[.sl 133],[]⟩,[],⟨[.val 42, .int .i64],[]⟩,0,F⟩
def wK(F:List ze->Option (zQ×Bool×Int)):Con I:=⟨247,⟨[.sl 133],[]⟩,[],⟨[.val 39, .bool, .int .i64],[]⟩,0,F⟩
def kU(F:zo->Option ((zm×Bool)×zo)):Con I:=⟨208,⟨[.optr 0],[(0, .row 230)]⟩,[],⟨[.val 42, .bool],[(0, .row 230)]⟩,0,F⟩
def qm(F:zo->Option ((zm×Bool)×zo)):Con I:=⟨157,⟨[.optr 0],[(0, .row 230)]⟩,[],⟨[.val 42, .bool],[(0, .row 230)]⟩,0,F⟩
def SS(F:List ze->Option (zm×Int)):Con I:=⟨100,⟨[.sl 133],[]⟩,[],⟨[.val 42, .int .i64],[]⟩,0,F⟩
def kV(F:(Bool×Str×List ze)×zx->Option ((zA×Bool)×zx)):Con I:=⟨65,⟨[.optr 0, .bool, .str, .sl 133, .nilp],[(0, .row 92)]⟩,[],⟨[.val 45, .bool],[(0, .row 92)]⟩,0,F⟩
def MU(F:(Bool×Str×List ze×ze)×zx->Option ((zA×Bool)×zx)):Con I:=⟨65,⟨[.optr 0, .bool, .str, .sl 133, .ptr 133],[(0, .row 92)]⟩,[],⟨[.val 45, .bool],[(0, .row 92)]⟩,0,F⟩
def ZW(F:(List ze×Bool)×zx->Option (List zA×zx)):Con I:=⟨44,⟨[.optr 0, .sl 133, .bool],[(0, .row 92)]⟩,[],⟨[.sl 45],[(0, .row 92)]⟩,0,F⟩
def JN(F:Str->Option (List zA×Int)):Con I:=⟨29,⟨[.str],[]⟩,[],⟨[.sl 45, .nilp, .int .i64],[]⟩,0,F⟩
def PN(F:Str->Option (Zi×Int)):Con I:=⟨20,⟨[.str],[]⟩,[],⟨[.val 49, .int .i64],[]⟩,0,F⟩
def nP(F:Str->Option ((List zA×Int)×zx)):Con I:=⟨29,⟨[.str],[]⟩,[],⟨[.sl 45, .optr 0, .int .i64],[(0, .row 92)]⟩,1,F⟩
def vP(F:Str->Option (Zi×Int)):Con I:=⟨20,⟨[.str],[]⟩,[],⟨[.val 49, .int .i64],[]⟩,0,F⟩
def uP(F:Str->Option (Zi×Int)):Con I:=⟨20,⟨[.str],[]⟩,[],⟨[.val 49, .int .i64],[]⟩,0,F⟩
def kF(F:List UInt8->Option (List UInt8)):Con I:=⟨51,⟨[.sl 5],[]⟩,[],⟨[.own 0],[(0, .sl 5)]⟩,1,F⟩
def MF(F:List zy->Option (List zy)):Con I:=⟨52,⟨[.sl 78],[]⟩,[],⟨[.own 0],[(0, .sl 78)]⟩,1,F⟩
def qo(F:List zh->Option (List zh)):Con I:=⟨35,⟨[.sl 74],[]⟩,[],⟨[.sl 74],[]⟩,0,F⟩
def Qd(F:List ze->Option (List ze)):Con I:=⟨53,⟨[.sl 133],[]⟩,[],⟨[.sl 133],[]⟩,0,F⟩
def wS(F:List zQ->Option (List zQ)):Con I:=⟨36,⟨[.sl 39],[]⟩,[],⟨[.sl 39],[]⟩,0,F⟩
def Q6(F:zm->Option zm):Con I:=⟨37,⟨[.val 42],[]⟩,[],⟨[.val 42],[]⟩,0,F⟩
def iF(F:List Str->Option (List Str)):Con I:=⟨38,⟨[.sl 9],[]⟩,[],⟨[.own 0],[(0, .sl 9)]⟩,1,F⟩
def QC(F:List zA->Option (List zA)):Con I:=⟨24,⟨[.sl 45],[]⟩,[],⟨[.sl 45],[]⟩,0,F⟩
def vN(F:zZ->Option zZ):Con I:=⟨21,⟨[.val 24],[]⟩,[],⟨[.val 24],[]⟩,0,F⟩
def jL(F:zZ×Int×Str×Str->Option (zZ×Int×Int)):Con I:=⟨7,⟨[.val 24, .int .u8, .str, .str],[]⟩,[],⟨[.val 24, .int .i64, .int .i64],[]⟩,0,F⟩
def EP(F:Unit->Option (zZ×Bool)):Con I:=⟨4,⟨[],[]⟩,[],⟨[.val 24, .bool],[]⟩,0,F⟩
def wN(F:qE×Int->Option Bool):Con I:=⟨33,⟨[.val 68, .optr 0],[(0, .row 3)]⟩,[0],⟨[.bool],[]⟩,0,F⟩
def UX(F:List qE×Int->Option Int):Con I:=⟨32,⟨[.sl 68, .clo 33 [0]],[(0, .row 3)]⟩,[0],⟨[.int .i64],[]⟩,0,F⟩
def tK(F:zZ×Int->Option (Int×Int)):Con I:=⟨22,⟨[.val 24, .int .i64],[]⟩,[],⟨[.int .i64, .int .i64],[]⟩,0,F⟩
def iL(F:zZ×Int->Option (qE×Int)):Con I:=⟨26,⟨[.val 24, .int .i64],[]⟩,[],⟨[.val 68, .int .i64],[]⟩,0,F⟩
def sN(F:zZ×Str×Int->Option (Zi×Int)):Con I:=⟨15,⟨[.val 24, .str, .int .i64],[]⟩,[],⟨[.val 49, .int .i64],[]⟩,0,F⟩
def NN(F:Str->Option (zA×Int)):Con I:=⟨16,⟨[.str],[]⟩,[],⟨[.val 45, .int .i64],[]⟩,0,F⟩
def sP(F:Str->Option (zA×Int)):Con I:=⟨16,⟨[.str],[]⟩,[],⟨[.val 45, .int .i64],[]⟩,0,F⟩
def rP(F:Str->Option (zA×Int)):Con I:=⟨16,⟨[.str],[]⟩,[],⟨[.val 45, .int .i64],[]⟩,0,F⟩
def xS(F:zA->Option Int):Con I:=⟨30,⟨[.val 45],[]⟩,[],⟨[.int .i64],[]⟩,0,F⟩
def yE(F:List zA->Option (List zA)):Con I:=⟨45,⟨[.sl 45],[]⟩,[],⟨[.own 0],[(0, .sl 45)]⟩,1,F⟩
def OG(F:List zh->Option (List zh)):Con I:=⟨66,⟨[.sl 74],[]⟩,[],⟨[.own 0],[(0, .sl 74)]⟩,1,F⟩
def GG(F:List zB->Option (List zB)):Con I:=⟨67,⟨[.sl 71],[]⟩,[],⟨[.own 0],[(0, .sl 71)]⟩,1,F⟩
def QB(F:List zh->Option (List zh)):Con I:=⟨46,⟨[.sl 74],[]⟩,[],⟨[.sl 74],[]⟩,0,F⟩
def BF(F:List zQ->Option (List zQ)):Con I:=⟨68,⟨[.sl 39],[]⟩,[],⟨[.own 0],[(0, .sl 39)]⟩,1,F⟩
def Un(F:List ze->Option (List ze)):Con I:=⟨69,⟨[.sl 133],[]⟩,[],⟨[.sl 133],[]⟩,0,F⟩
def uO(F:List zQ->Option (List zQ)):Con I:=⟨47,⟨[.sl 39],[]⟩,[],⟨[.sl 39],[]⟩,0,F⟩
def CF(F:List zm->Option (List zm)):Con I:=⟨70,⟨[.sl 42],[]⟩,[],⟨[.own 0],[(0, .sl 42)]⟩,1,F⟩
def QA(F:zm->Option zm):Con I:=⟨48,⟨[.val 42],[]⟩,[],⟨[.val 42],[]⟩,0,F⟩
def EG(F:List (List Str)->Option (List (List Str))):Con I:=⟨49,⟨[.sl 50],[]⟩,[],⟨[.own 0],[(0, .sl 50)]⟩,1,F⟩
def Dn(F:List zA->Option (List zA)):Con I:=⟨31,⟨[.sl 45],[]⟩,[],⟨[.sl 45],[]⟩,0,F⟩
def BQ(F:Zi×zA×Int->Option (Zi×Int)):Con I:=⟨17,⟨[.val 49, .val 45, .int .i64],[]⟩,[],⟨[.val 49, .int .i64],[]⟩,0,F⟩
def rQ(F:zZ->Option (Int×List qE)):Con I:=⟨21,⟨[.val 24],[]⟩,[],⟨[.agi 0 .i64],[(0, .sl 68)]⟩,1,F⟩
def gL(F:zZ×Int×Zi->Option (zZ×Int)):Con I:=⟨9,⟨[.val 24, .int .i64, .val 49],[]⟩,[],⟨[.val 24, .int .i64],[]⟩,0,F⟩
def KQ(F:zZ×Str×Int×Int×Str->Option (zZ×Int)):Con I:=⟨5,⟨[.val 24, .str, .int .i64, .int .i64, .str],[]⟩,[],⟨[.val 24, .int .i64],[]⟩,0,F⟩
def CQ(F:Zi×Int->Option (Zi×Int)):Con I:=⟨18,⟨[.val 49, .int .i64],[]⟩,[],⟨[.val 49, .int .i64],[]⟩,0,F⟩
def LQ(F:zZ×Str×Int×Int->Option (zZ×Int)):Con I:=⟨6,⟨[.val 24, .str, .int .i64, .int .i64],[]⟩,[],⟨[.val 24, .int .i64],[]⟩,0,F⟩
def YN(F:Unit->Option zA):Con I:=⟨8,⟨[],[]⟩,[],⟨[.val 45],[]⟩,0,F⟩
def FZ(F:Str×List UInt8->Option (Int×List UInt8)):Con I:=⟨126,⟨[.optr 0, .str],[(0, .cells 204 [.nop 0 204 2, .own 1]),(1, .sl 5)]⟩,[],⟨[.int .i64, .nili],[(0, .cells 204 [.nop 0 204 2, .own 2]),(2, .sl 5)]⟩,1,F⟩
def aY(F:Int×List UInt8->Option (List UInt8)):Con I:=⟨174,⟨[.optr 0, .int .u8],[(0, .cells 204 [.nop 0 204 2, .own 1]),(1, .sl 5)]⟩,[],⟨[.nili],[(0, .cells 204 [.nop 0 204 2, .own 2]),(2, .sl 5)]⟩,1,F⟩
def gN(F:Str->Option Int):Con I:=⟨183,⟨[.str],[]⟩,[],⟨[.int .i64],[]⟩,0,F⟩
def NS(F:Int×List UInt8->Option (List UInt8)):Con I:=⟨227,⟨[.own 0, .int .u8],[(0, .sl 5)]⟩,[],⟨[.own 1],[(1, .sl 5)]⟩,1,F⟩
def NP(F:Str×Int->Option (List UInt8)):Con I:=⟨182,⟨[.nilv, .str, .int .i64],[]⟩,[],⟨[.own 0],[(0, .sl 5)]⟩,1,F⟩
def MP(F:(Str×Int)×List UInt8->Option (List UInt8)):Con I:=⟨182,⟨[.own 0, .str, .int .i64],[(0, .sl 5)]⟩,[],⟨[.own 1],[(1, .sl 5)]⟩,1,F⟩
def MS(F:Int×Bool->Option (List UInt8)):Con I:=⟨289,⟨[.nilv, .int .i64, .bool],[]⟩,[],⟨[.own 0],[(0, .sl 5)]⟩,1,F⟩
def dN(F:Unit->Option qX):Con I:=⟨290,⟨[],[]⟩,[],⟨[.val 368],[]⟩,0,F⟩
def LP(F:zt->Option (List UInt8)):Con I:=⟨256,⟨[.nilv, .val 129],[]⟩,[],⟨[.own 0],[(0, .sl 5)]⟩,1,F⟩
def uK(F:zt->Option (Str×Int)):Con I:=⟨219,⟨[.val 129],[]⟩,[],⟨[.str, .int .i64],[]⟩,0,F⟩
def dW(F:zt×List UInt8->Option (List UInt8)):Con I:=⟨175,⟨[.optr 0, .val 129],[(0, .cells 204 [.nop 0 204 2, .own 1]),(1, .sl 5)]⟩,[],⟨[],[(0, .cells 204 [.nop 0 204 2, .own 2]),(2, .sl 5)]⟩,1,F⟩
def OX(F:Str×Str->Option Bool):Con I:=⟨314,⟨[.str, .str],[]⟩,[],⟨[.bool],[]⟩,0,F⟩
def JY(F:Str×Str->Option Str):Con I:=⟨292,⟨[.str, .str],[]⟩,[],⟨[.str],[]⟩,0,F⟩
def uU(F:Str×Str->Option Str):Con I:=⟨258,⟨[.str, .str],[]⟩,[],⟨[.str],[]⟩,0,F⟩
def AL(F:VAnb->Option (Str×Int)):Con I:=⟨221,⟨[.val 76],[]⟩,[],⟨[.str, .int .i64],[]⟩,0,F⟩
def XX(F:List zh×List UInt8->Option (List UInt8)):Con I:=⟨127,⟨[.optr 0, .sl 74],[(0, .cells 204 [.nop 0 204 2, .own 1]),(1, .sl 5)]⟩,[],⟨[],[(0, .cells 204 [.nop 0 204 2, .own 2]),(2, .sl 5)]⟩,1,F⟩
def ZG(F:zy×List UInt8->Option (List UInt8)):Con I:=⟨176,⟨[.optr 0, .val 78],[(0, .cells 204 [.nop 0 204 2, .own 1]),(1, .sl 5)]⟩,[],⟨[],[(0, .cells 204 [.nop 0 204 2, .own 2]),(2, .sl 5)]⟩,1,F⟩
def lV(F:List zh->Option (List UInt8)):Con I:=⟨127,⟨[.optr 0, .sl 74],[(0, .cells 204 [.nop 0 204 2, .nilv])]⟩,[],⟨[],[(0, .cells 204 [.nop 0 204 2, .own 1]),(1, .sl 5)]⟩,1,F⟩
def iV(F:List UInt8->Option Int):Con I:=⟨55,⟨[.optr 0],[(0, .cells 204 [.nop 0 204 2, .own 1]),(1, .sl 5)]⟩,[0,1],⟨[.int .i64],[]⟩,0,F⟩
def AQ(F:List zh->Option (Str×Int)):Con I:=⟨85,⟨[.sl 74],[]⟩,[],⟨[.str, .int .i64],[]⟩,0,F⟩
def SX(F:Bool->Option Int):Con I:=⟨55,⟨[.optr 0],[(0, .cells 122 [.nop 0 122 3, .nilv, .bool])]⟩,[0],⟨[.int .i64],[]⟩,0,F⟩
def pY(F:Str×Bool->Option (Int×Bool×List UInt8)):Con I:=⟨126,⟨[.optr 0, .str],[(0, .cells 122 [.nop 0 122 3, .nilv, .bool])]⟩,[],⟨[.int .i64, .nili],[(0, .cells 122 [.nop 0 122 3, .own 1, .bool]),(1, .sl 5)]⟩,1,F⟩
def eT(F:(Str×Int)×Bool->Option (Bool×List UInt8)):Con I:=⟨84,⟨[.optr 0, .str, .int .i64],[(0, .cells 122 [.nop 0 122 3, .nilv, .bool])]⟩,[],⟨[],[(0, .cells 122 [.nop 0 122 3, .own 1, .bool]),(1, .sl 5)]⟩,1,F⟩
def RX(F:Bool×List UInt8->Option Int):Con I:=⟨55,⟨[.optr 0],[(0, .cells 122 [.nop 0 122 3, .own 1, .bool]),(1, .sl 5)]⟩,[0,1],⟨[.int .i64],[]⟩,0,F⟩
def nY(F:Str×Bool×List UInt8->Option (Int×Bool×List UInt8)):Con I:=⟨126,⟨[.optr 0, .str],[(0, .cells 122 [.nop 0 122 3, .own 1, .bool]),(1, .sl 5)]⟩,[],⟨[.int .i64, .nili],[(0, .cells 122 [.nop 0 122 3, .own 2, .bool]),(2, .sl 5)]⟩,1,F⟩
def yU(F:(Str×Int)×Bool×List UInt8->Option (Bool×List UInt8)):Con I:=⟨84,⟨[.optr 0, .str, .int .i64],[(0, .cells 122 [.nop 0 122 3, .own 1, .bool]),(1, .sl 5)]⟩,[],⟨[],[(0, .cells 122 [.nop 0 122 3, .own 2, .bool]),(2, .sl 5)]⟩,1,F⟩
def mM(F:Str->Option (Str×Int)):Con I:=⟨133,⟨[.str],[]⟩,[],⟨[.str, .int .i64],[]⟩,0,F⟩
def KS(F:(Int×Bool)×List UInt8->Option (List UInt8)):Con I:=⟨289,⟨[.own 0, .int .i64, .bool],[(0, .sl 5)]⟩,[],⟨[.own 1],[(1, .sl 5)]⟩,1,F⟩
def KP(F:zt×List UInt8->Option (List UInt8)):Con I:=⟨256,⟨[.own 0, .val 129],[(0, .sl 5)]⟩,[],⟨[.own 1],[(1, .sl 5)]⟩,1,F⟩
def xU(F:List zt×List zt->Option Bool):Con I:=⟨259,⟨[.sl 129, .sl 129],[]⟩,[],⟨[.bool],[]⟩,0,F⟩
def jN(F:List zt->Option (Str×Int)):Con I:=⟨222,⟨[.sl 129],[]⟩,[],⟨[.str, .int .i64],[]⟩,0,F⟩
def gM(F:List ze->Option (Str×Int)):Con I:=⟨177,⟨[.sl 133],[]⟩,[],⟨[.str, .int .i64],[]⟩,0,F⟩
def GM(F:zQ->Option (Str×Int)):Con I:=⟨128,⟨[.val 39],[]⟩,[],⟨[.str, .int .i64],[]⟩,0,F⟩
def IM(F:List zQ->Option (Str×Int)):Con I:=⟨86,⟨[.sl 39],[]⟩,[],⟨[.str, .int .i64],[]⟩,0,F⟩
def pM(F:zm->Option Int):Con I:=⟨130,⟨[.val 42],[]⟩,[],⟨[.int .i64],[]⟩,0,F⟩
def PS(F:Int×Int×List UInt8->Option (Int×List UInt8)):Con I:=⟨225,⟨[.int .u8, .optr 0, .optr 1],[(0, .row 3),(1, .sl 5)]⟩,[],⟨[],[(0, .row 3),(1, .sl 5)]⟩,0,F⟩
def RP(F:Int->Option (Str×Int)):Con I:=⟨180,⟨[.int .i64],[]⟩,[],⟨[.str, .int .i64],[]⟩,0,F⟩
def KM(F:List zm×Str->Option Str):Con I:=⟨179,⟨[.sl 42, .str, .clo 131 []],[]⟩,[],⟨[.str],[]⟩,0,F⟩
def Vj(F:zm->Option Str):Con I:=⟨131,⟨[.val 42],[]⟩,[],⟨[.str],[]⟩,0,F⟩
def CU(F:zm×Bool->Option (Str×Bool)):Con I:=⟨181,⟨[.val 42, .optr 0],[(0, .cells 210 [.optr 1]),(1, .row 4)]⟩,[0],⟨[.str],[(1, .row 4)]⟩,0,F⟩
def YP(F:(List zm×Str)×Bool->Option (Str×Bool)):Con I:=⟨179,⟨[.sl 42, .str, .clo 181 [0]],[(0, .cells 210 [.optr 1]),(1, .row 4)]⟩,[0],⟨[.str],[(1, .row 4)]⟩,0,F⟩
def qL(F:zm×Bool->Option (Str×Bool)):Con I:=⟨132,⟨[.val 42, .optr 0],[(0, .row 4)]⟩,[],⟨[.str],[(0, .row 4)]⟩,0,F⟩
def NM(F:zm->Option (Str×Int)):Con I:=⟨87,⟨[.val 42],[]⟩,[],⟨[.str, .int .i64],[]⟩,0,F⟩
def aX(F:(Str×Str)×Bool×List UInt8->Option (Bool×List UInt8)):Con I:=⟨83,⟨[.str, .str, .optr 0],[(0, .cells 154 [.optr 1]),(1, .cells 122 [.nop 1 122 3, .own 2, .bool]),(2, .sl 5)]⟩,[0],⟨[],[(1, .cells 122 [.nop 1 122 3, .own 3, .bool]),(3, .sl 5)]⟩,1,F⟩
def PU(F:List Str×Bool×List UInt8->Option (Bool×List UInt8)):Con I:=⟨89,⟨[.optr 0, .sl 9],[(0, .cells 122 [.nop 0 122 3, .own 1, .bool]),(1, .sl 5)]⟩,[],⟨[],[(0, .cells 122 [.nop 0 122 3, .own 2, .bool]),(2, .sl 5)]⟩,1,F⟩
def lW(F:zA×Bool×List UInt8->Option (Bool×List UInt8)):Con I:=⟨54,⟨[.optr 0, .val 45],[(0, .cells 122 [.nop 0 122 3, .own 1, .bool]),(1, .sl 5)]⟩,[],⟨[],[(0, .cells 122 [.nop 0 122 3, .own 2, .bool]),(2, .sl 5)]⟩,1,F⟩
def ZV(F:List zA×Bool×List UInt8->Option (Bool×List UInt8)):Con I:=⟨88,⟨[.optr 0, .sl 45],[(0, .cells 122 [.nop 0 122 3, .own 1, .bool]),(1, .sl 5)]⟩,[],⟨[],[(0, .cells 122 [.nop 0 122 3, .own 2, .bool]),(2, .sl 5)]⟩,1,F⟩
def OU(F:zA×Bool->Option (Bool×List UInt8)):Con I:=⟨54,⟨[.optr 0, .val 45],[(0, .cells 122 [.nop 0 122 3, .nilv, .bool])]⟩,[],⟨[],[(0, .cells 122 [.nop 0 122 3, .own 1, .bool]),(1, .sl 5)]⟩,1,F⟩
def SN(F:zA->Option (Str×Int)):Con I:=⟨39,⟨[.val 45],[]⟩,[],⟨[.str, .int .i64],[]⟩,0,F⟩
def vO(F:Zi->Option (List Str×Int)):Con I:=⟨25,⟨[.val 49],[]⟩,[],⟨[.sl 9, .int .i64],[]⟩,0,F⟩
def WP(F:zZ×Str×Int->Option (List Str×Int)):Con I:=⟨10,⟨[.val 24, .str, .int .i64],[]⟩,[],⟨[.sl 9, .int .i64],[]⟩,0,F⟩
def RS(F:zZ×Str×Int->Option (Bool×Int)):Con I:=⟨11,⟨[.val 24, .str, .int .i64],[]⟩,[],⟨[.bool, .int .i64],[]⟩,0,F⟩
def EQ(F:zy->Option qF):Con I:=⟨294,⟨[.val 78],[]⟩,[],⟨[.val 371],[]⟩,0,F⟩
def RU(F:List zy×List zy->Option Bool):Con I:=⟨262,⟨[.sl 78, .sl 78],[]⟩,[],⟨[.bool],[]⟩,0,F⟩
def xO(F:zh×zh->Option Bool):Con I:=⟨228,⟨[.val 74, .val 74],[]⟩,[],⟨[.bool],[]⟩,0,F⟩
def Ii(F:List zh×List zh->Option Bool):Con I:=⟨184,⟨[.sl 74, .sl 74],[]⟩,[],⟨[.bool],[]⟩,0,F⟩
def Gn(F:List ze×List ze->Option Bool):Con I:=⟨263,⟨[.sl 133, .sl 133],[]⟩,[],⟨[.bool],[]⟩,0,F⟩
def yO(F:zQ×zQ->Option Bool):Con I:=⟨229,⟨[.val 39, .val 39],[]⟩,[],⟨[.bool],[]⟩,0,F⟩
def UN(F:List zQ×List zQ->Option Bool):Con I:=⟨185,⟨[.sl 39, .sl 39],[]⟩,[],⟨[.bool],[]⟩,0,F⟩
def En(F:zm×zm->Option Bool):Con I:=⟨186,⟨[.val 42, .val 42],[]⟩,[],⟨[.bool],[]⟩,0,F⟩
def BU(F:List (List Str)×List (List Str)->Option Bool):Con I:=⟨187,⟨[.sl 50, .sl 50],[]⟩,[],⟨[.bool],[]⟩,0,F⟩
def wO(F:zA×zA->Option Bool):Con I:=⟨134,⟨[.val 45, .val 45],[]⟩,[],⟨[.bool],[]⟩,0,F⟩
def Uj(F:List zA×List zA->Option Bool):Con I:=⟨90,⟨[.sl 45, .sl 45],[]⟩,[],⟨[.bool],[]⟩,0,F⟩
def vR(F:qE×qE->Option Bool):Con I:=⟨57,⟨[.val 68, .val 68],[]⟩,[],⟨[.bool],[]⟩,0,F⟩
def uR(F:List qE×List qE->Option Bool):Con I:=⟨40,⟨[.sl 68, .sl 68],[]⟩,[],⟨[.bool],[]⟩,0,F⟩
def TN(F:zZ×zZ->Option Bool):Con I:=⟨27,⟨[.val 24, .val 24],[]⟩,[],⟨[.bool],[]⟩,0,F⟩
def JS(F:zZ×Str×Int×Int×Str×Int->Option Bool):Con I:=⟨12,⟨[.val 24, .str, .int .i64, .int .i64, .str, .int .i64],[]⟩,[],⟨[.bool],[]⟩,0,F⟩
def AU(F:List Str×List Str->Option Bool):Con I:=⟨41,⟨[.sl 9, .sl 9],[]⟩,[],⟨[.bool],[]⟩,0,F⟩
def yT(F:List Str×List Str->Option Bool):Con I:=⟨28,⟨[.sl 9, .sl 9],[]⟩,[],⟨[.bool],[]⟩,0,F⟩
def jM(F:zZ×Str×Int×List Str->Option Bool):Con I:=⟨13,⟨[.val 24, .str, .int .i64, .sl 9],[]⟩,[],⟨[.bool],[]⟩,0,F⟩
def FP(F:Unit->Option Bool):Con I:=⟨14,⟨[],[]⟩,[],⟨[.bool],[]⟩,0,F⟩
def XE(F:Unit->Option Bool):Con I:=⟨3,⟨[],[]⟩,[],⟨[.bool],[]⟩,0,F⟩
def bW(F:List Str->Option (List Str)):Con I:=⟨38,⟨[.sl 9],[]⟩,[],⟨[.sl 9],[]⟩,0,F⟩
def FQ(F:List ze->Option (List zt)):Con I:=⟨164,⟨[.nilv, .sl 133],[]⟩,[],⟨[.sl 129],[]⟩,0,F⟩
def UI(F:Str->Option (Str×Int)):Con I:=⟨91,⟨[.str],[]⟩,[],⟨[.str, .int .i64],[]⟩,0,F⟩
theorem kJ:zf Tryz.prog (UI jk):=VJ
def YK(F:Str×Int->Option Int):Con I:=⟨159,⟨[.str, .int .u8],[]⟩,[],⟨[.int .i64],[]⟩,0,F⟩
theorem BK:zf Tryz.prog (YK Bl):=FL
def RI(F:Str×Str->Option Int):Con I:=⟨137,⟨[.str, .str],[]⟩,[],⟨[.int .i64],[]⟩,0,F⟩
theorem Gs:zf Tryz.prog (RI Ti):=TJ
def OI(F:Str×Str->Option Str):Con I:=⟨239,⟨[.str, .str],[]⟩,[],⟨[.str],[]⟩,0,F⟩
theorem gJ:zf Tryz.prog (OI Vk):=OJ
def NI(F:Str×Str->Option Str):Con I:=⟨309,⟨[.str, .str],[]⟩,[],⟨[.str],[]⟩,0,F⟩
theorem EA:zf Tryz.prog (NI Eh):=NJ
def kM(F:Str×Str->Option Int):Con I:=⟨240,⟨[.str, .str],[]⟩,[],⟨[.int .i64],[]⟩,0,F⟩
theorem YM:zf Tryz.prog (kM Lr):=FM
def eG(F:Str×Str->Option (Str×Str×Bool)):Con I:=⟨241,⟨[.str, .str],[]⟩,[],⟨[.str, .str, .bool],[]⟩,0,F⟩
theorem dH:zf Tryz.prog (eG cutF):=rG
def aK(F:Int×Int->Option Str):Con I:=⟨257,⟨[.int .i64, .int .i64],[]⟩,[],⟨[.str],[]⟩,0,F⟩
theorem Ws:zf Tryz.prog (aK Ph):=GL
def xK(F:(Int×Int)×List UInt8->Option (List UInt8)):Con I:=⟨261,⟨[.own 0, .int .u64, .int .i64],[(0, .sl 5)]⟩,[],⟨[.own 1],[(1, .sl 5)]⟩,1,F⟩
theorem tL:zf Tryz.prog (xK Dr):=NL
def yK(F:(Int×Int)×List UInt8->Option (List UInt8)):Con I:=⟨308,⟨[.own 0, .int .i64, .int .i64],[(0, .sl 5)]⟩,[],⟨[.own 1],[(1, .sl 5)]⟩,1,F⟩
theorem WB:zf Tryz.prog (yK il):=PL
def PI(F:List zt->Option (List ze×Int)):Con I:=⟨43,⟨[.sl 129],[]⟩,[],⟨[.sl 133, .int .i64],[]⟩,0,F⟩
theorem GA:zf Tryz.prog (PI parseF):=RJ
def JH(F:List Str×Str->Option Str):Con I:=⟨129,⟨[.sl 9, .str],[]⟩,[],⟨[.str],[]⟩,0,F⟩
theorem rq:zf Tryz.prog (JH Jg):=DJ
def dK(F:List zt->Option (VAnb×Int)):Con I:=⟨343,⟨[.sl 129],[]⟩,[],⟨[.val 76, .int .i64],[]⟩,0,F⟩
theorem DK:zf Tryz.prog (dK Ky):=zf.none (by kernel_rfl)
def SI(F:Bool->Option Bool):Con I:=⟨173,⟨[.optr 0],[(0, .cells 122 [.nop 0 122 3, .nilv, .bool])]⟩,[],⟨[],[(0, .cells 122 [.nop 0 122 3, .nilv, .bool])]⟩,0,F⟩
theorem jJ:zf Tryz.prog (SI Np):=UJ
def KH(F:Bool×List UInt8->Option Bool):Con I:=⟨173,⟨[.optr 0],[(0, .cells 122 [.nop 0 122 3, .own 1, .bool]),(1, .sl 5)]⟩,[1],⟨[],[(0, .cells 122 [.nop 0 122 3, .own 1, .bool])]⟩,0,F⟩
theorem mI:zf Tryz.prog (KH dn):=xH
def bG(F:Bool×List UInt8->Option Str):Con I:=⟨56,⟨[.optr 0],[(0, .cells 122 [.nop 0 122 3, .own 1, .bool]),(1, .sl 5)]⟩,[],⟨[.str],[]⟩,0,F⟩
theorem aH:zf Tryz.prog (bG strW):=lH
def LH(F:List UInt8->Option Unit):Con I:=⟨173,⟨[.optr 0],[(0, .cells 204 [.nop 0 204 2, .own 1]),(1, .sl 5)]⟩,[1],⟨[],[(0, .cells 204 [.nop 0 204 2, .own 1])]⟩,0,F⟩
theorem ay:zf Tryz.prog (LH copyV):=yH
def dG(F:List UInt8->Option Str):Con I:=⟨56,⟨[.optr 0],[(0, .cells 204 [.nop 0 204 2, .own 1]),(1, .sl 5)]⟩,[],⟨[.str],[]⟩,0,F⟩
theorem bH:zf Tryz.prog (dG strV):=mH
theorem Zh:zf Tryz.prog (KU strings_IndexByte):=
 okC Tryz.f105 (memC BK zw)
theorem FE:zf Tryz.prog (aS Av):=
 okC Tryz.f104 (memC Zh zw)
theorem OY(fu:Nat):zf Tryz.prog (dY (QY fu)):=
 okC Tryz.f158 (memC FE zw) (cuts:=[(2,⟨[8],⟨[.int .i64],[]⟩,[0,1,7],[],[],0,[],⟨[],[]⟩,[]⟩)]) (fl:=some fu)
theorem lY(fu:Nat):zf Tryz.prog (xY (Qk fu)):=
 okC Tryz.f103 (memC (OY fu) zw) (fl:=some fu)
theorem SQ(fu:Nat):zf Tryz.prog (gP (aB fu)):=
 okC Tryz.f73 (memC (lY fu) zw) (fl:=some fu)
theorem xQ(fu:Nat):zf Tryz.prog (oP (KC fu)):=
 okC Tryz.f72 (memC (SQ fu) zw) (fl:=some fu)
theorem gX(fu:Nat):zf Tryz.prog (GY (yF fu)):=
 okC Tryz.f102 (memC (xQ fu) zw) (cuts:=[(2,⟨[8],⟨[.int .i64],[]⟩,[0,1,7],[],[],0,[],⟨[],[]⟩,[]⟩)]) (fl:=some fu)
theorem BZ(fu:Nat):zf Tryz.prog (TY (QJ fu)):=
 okC Tryz.f71 (memC (gX fu) zw) (fl:=some fu)
theorem KT(fu:Nat)(Z5:List zh->Option Int)(hs:zf Tryz.prog (Q5 Z5)):zf Tryz.prog (Q5 (Nw fu Z5)):=
 okC Tryz.f74 (memC hs zw) (cuts:=[(3,⟨[3,14],⟨[.int .i64, .int .i64],[]⟩,[2,12,13],[],[],0,[3],⟨[.int .i64],[]⟩,[]⟩),(6,⟨[3,21],⟨[.int .i64, .int .i64],[]⟩,[14,19,20],[],[],2,[3],⟨[.int .i64],[]⟩,[]⟩),(9,⟨[3,28],⟨[.int .i64, .int .i64],[]⟩,[21,26,27],[],[],4,[3],⟨[.int .i64],[]⟩,[]⟩)]) (joins:=[(15,⟨[3,28],⟨[.int .i64, .int .i64],[]⟩,[],[],[],0,[],⟨[],[]⟩,[]⟩)]) (fl:=some fu)
theorem kS(fu:Nat):zf Tryz.prog (Q5 (Z5 fu)):=ic (Q5 (Z5 fu)) (Nw fu) (fun S h=>KT fu S h) fu
theorem bD:zf Tryz.prog (wP bu):=
 okC Tryz.f252 (memC Zh zw)
theorem KE:zf Tryz.prog (yR Ev):=
 okC Tryz.f248 (memC bD zw)
theorem Zx(fu:Nat):zf Tryz.prog (IP (ZH fu)):=
 okC Tryz.f63 zw (cuts:=[(3,⟨[10],⟨[.int .i64],[(0, .sl 5)]⟩,[2,3,8,9],[],[0],0,[],⟨[],[(0, .sl 5)]⟩,[0]⟩)]) (joins:=[(7,⟨[10],⟨[.int .i64],[(0, .sl 5)]⟩,[],[],[0],0,[],⟨[],[]⟩,[]⟩)]) (fl:=some fu)
theorem JE(fu:Nat):zf Tryz.prog (bS (Dv fu)):=
 okC Tryz.f211 (memC KE (memC (Zx fu) zw)) (fl:=some fu)
theorem bR:zf Tryz.prog (BS rC):=
 okC Tryz.f249 zw (joins:=[(4,⟨[6],⟨[.bool],[]⟩,[1,5],[0],[],0,[],⟨[],[]⟩,[]⟩),(7,⟨[11],⟨[.bool],[]⟩,[],[],[],0,[],⟨[],[]⟩,[]⟩),(10,⟨[14],⟨[.bool],[]⟩,[],[],[],0,[],⟨[],[]⟩,[]⟩)])
theorem Uw:zf Tryz.prog (YT Q9):=
 okC Tryz.f250 zw (exS:=⟨[.optr 0, .bool],[(0, .row 183)]⟩)
theorem eO:zf Tryz.prog (sM ut):=
 okC Tryz.f287 zw
theorem FC:zf Tryz.prog (OM Ns):=
 okC Tryz.f253 (memC eO zw)
theorem aU(fu:Nat)(zq:zh×zg×Bool->Option Bool)(h_seltext_whole:zf Tryz.prog (Zj zq)):zf Tryz.prog (XT (yD fu zq)):=
 okC Tryz.f251 (memC h_seltext_whole zw) (p:=2) (fl:=some fu)
theorem AZ(fu:Nat)(zq:zh×zg×Bool->Option Bool)(h_seltext_whole:zf Tryz.prog (Zj zq)):zf Tryz.prog (SY (QK fu zq)):=
 okC Tryz.f160 (memC (aU fu zq h_seltext_whole) zw) (p:=2) (cuts:=[(2,⟨[8],⟨[.int .i64],[]⟩,[0,1,7],[],[],0,[],⟨[],[]⟩,[]⟩)]) (fl:=some fu)
theorem EZ(fu:Nat)(zq:zh×zg×Bool->Option Bool)(h_seltext_whole:zf Tryz.prog (Zj zq)):zf Tryz.prog (GZ (qU fu zq)):=
 okC Tryz.f106 (memC (AZ fu zq h_seltext_whole) zw) (p:=2) (fl:=some fu)
theorem lS(fu:Nat)(zq:zh×zg×Bool->Option Bool)(h_seltext_whole:zf Tryz.prog (Zj zq)):zf Tryz.prog (rR (LD fu zq)):=
 okC Tryz.f212 (memC bR (memC Uw (memC (EZ fu zq h_seltext_whole) (memC KE (memC (JE fu) (memC bD (memC FC zw))))))) (joins:=[(8,⟨[],⟨[],[]⟩,[2],[0],[],0,[],⟨[],[]⟩,[]⟩),(15,⟨[89],⟨[.bool],[]⟩,[10,88],[],[],0,[],⟨[],[]⟩,[]⟩)]) (fl:=some fu)
theorem xE(fu:Nat)(zq:zh×zg×Bool->Option Bool)(h_seltext_whole:zf Tryz.prog (Zj zq)):zf Tryz.prog (bT (Ow fu zq)):=
 okC Tryz.f163 (memC (JE fu) (memC (lS fu zq h_seltext_whole) zw)) (cuts:=[(4,⟨[30],⟨[.int .i64],[]⟩,[2,3,28,29],[0,1],[],0,[],⟨[],[]⟩,[]⟩)]) (fl:=some fu)
theorem lT(fu:Nat)(zq:zh×zg×Bool->Option Bool)(h_seltext_whole:zf Tryz.prog (Zj zq)):zf Tryz.prog (yS (jD fu zq)):=
 okC Tryz.f162 (memC (xE fu zq h_seltext_whole) zw) (p:=1) (fl:=some fu)
theorem PY(fu:Nat)(zq:zh×zg×Bool->Option Bool)(h_seltext_whole:zf Tryz.prog (Zj zq)):zf Tryz.prog (eY (QX fu zq)):=
 okC Tryz.f210 (memC (lT fu zq h_seltext_whole) zw) (p:=1) (cuts:=[(2,⟨[8],⟨[.int .i64],[]⟩,[0,1,7],[],[],0,[],⟨[],[]⟩,[]⟩)]) (fl:=some fu)
theorem mY(fu:Nat)(zq:zh×zg×Bool->Option Bool)(h_seltext_whole:zf Tryz.prog (Zj zq)):zf Tryz.prog (yY (Qj fu zq)):=
 okC Tryz.f161 (memC (PY fu zq h_seltext_whole) zw) (p:=1) (fl:=some fu)
theorem TS(fu:Nat)(zq:zh×zg×Bool->Option Bool)(hs:zf Tryz.prog (Zj zq)):zf Tryz.prog (Zj (kv fu zq)):=
 okC Tryz.f108 (memC (mY fu zq hs) zw) (cuts:=[(4,⟨[38],⟨[.int .i64],[]⟩,[3,4,36,37],[0,1],[],0,[],⟨[],[]⟩,[]⟩)]) (fl:=some fu)
theorem IE(fu:Nat):zf Tryz.prog (Zj (zq fu)):=ic (Zj (zq fu)) (kv fu) (fun S h=>TS fu S h) fu
theorem nT(fu:Nat):zf Tryz.prog (wT (kD fu)):=
 okC Tryz.f107 (memC (IE fu) zw) (fl:=some fu)
theorem VY(fu:Nat):zf Tryz.prog (lX (rF fu)):=
 okC Tryz.f160 (memC (nT fu) zw) (cuts:=[(2,⟨[8],⟨[.int .i64],[]⟩,[0,1,7],[],[],0,[],⟨[],[]⟩,[]⟩)]) (fl:=some fu)
theorem vY(fu:Nat):zf Tryz.prog (tY (Qu fu)):=
 okC Tryz.f106 (memC (VY fu) zw) (fl:=some fu)
theorem UR(fu:Nat)(Z0:List zh->Option Int)(hs:zf Tryz.prog (Xn Z0)):zf Tryz.prog (Xn (Aw fu Z0)):=
 okC Tryz.f109 (memC hs zw) (cuts:=[(3,⟨[3,14],⟨[.int .i64, .int .i64],[]⟩,[2,12,13],[],[],0,[3],⟨[.int .i64],[]⟩,[]⟩),(6,⟨[3,21],⟨[.int .i64, .int .i64],[]⟩,[14,19,20],[],[],2,[3],⟨[.int .i64],[]⟩,[]⟩),(9,⟨[3,28],⟨[.int .i64, .int .i64],[]⟩,[21,26,27],[],[],4,[3],⟨[.int .i64],[]⟩,[]⟩)]) (fl:=some fu)
theorem sD(fu:Nat):zf Tryz.prog (Xn (Z0 fu)):=ic (Xn (Z0 fu)) (Aw fu) (fun S h=>UR fu S h) fu
theorem uD(fu:Nat):zf Tryz.prog (CS (Fv fu)):=
 okC Tryz.f75 (memC (vY fu) (memC (sD fu) zw)) (fl:=some fu)
theorem TQ:zf Tryz.prog (jP Um):=
 okC Tryz.f76 zw
theorem Uv:zf Tryz.prog (BP dm):=
 okC Tryz.f61 zw (joins:=[(7,⟨[6],⟨[.bool],[]⟩,[0],[],[],0,[],⟨[],[]⟩,[]⟩)])
theorem TM(fu:Nat)(Xf:List ze×Int->Option Zd)(hs:zf Tryz.prog (Wm Xf)):zf Tryz.prog (Wm (Lu fu Xf)):=
 okC Tryz.f111 (memC Uv (memC hs zw)) (cuts:=[(3,⟨[12],⟨[.int .i64],[(1, .row 187)]⟩,[1,4,5,10,11],[0],[1],0,[],⟨[],[(1, .row 187)]⟩,[1]⟩)]) (joins:=[(9,⟨[],⟨[],[(1, .row 187)]⟩,[7,8,12],[2],[1],0,[],⟨[],[]⟩,[]⟩),(12,⟨[12],⟨[.int .i64],[(1, .row 187)]⟩,[],[],[1],0,[],⟨[],[]⟩,[]⟩)]) (fl:=some fu) (exS:=⟨[.optr 0],[(0, .row 187)]⟩)
theorem uB(fu:Nat):zf Tryz.prog (Wm (Xf fu)):=ic (Wm (Xf fu)) (Lu fu) (fun S h=>TM fu S h) fu
theorem qz(fu:Nat):zf Tryz.prog (XN (QE fu)):=
 okC Tryz.f110 (memC (uB fu) zw) (fl:=some fu)
theorem Jv(fu:Nat):zf Tryz.prog (WN (Lm fu)):=
 okC Tryz.f77 (memC (qz fu) (memC (uB fu) zw)) (fl:=some fu)
theorem OQ(fu:Nat)(Qn:List ze×List zt->Option (List zt))(hs:zf Tryz.prog (Tn Qn)):zf Tryz.prog (Tn (Rv fu Qn)):=
 okC Tryz.f164 (memC Uv (memC hs zw)) (fz:=[(4,[3]),(7,[6])]) (p:=1) (cuts:=[(2,⟨[0,10],⟨[.own 1001, .int .i64],[(1001, .sl 129)]⟩,[4,8,9],[],[],0,[0],⟨[.own 1001],[(1001, .sl 129)]⟩,[1001]⟩)]) (joins:=[(8,⟨[0,10],⟨[.own 1103, .int .i64],[(1103, .sl 129)]⟩,[],[],[],0,[],⟨[],[]⟩,[]⟩)]) (fl:=some fu)
theorem bQ(fu:Nat):zf Tryz.prog (Tn (Qn fu)):=ic (Tn (Qn fu)) (Rv fu) (fun S h=>OQ fu S h) fu
theorem YD(fu:Nat):zf Tryz.prog (AP (Ym fu)):=
 okC Tryz.f164 (memC Uv (memC (bQ fu) zw)) (fz:=[(4,[3]),(7,[6])]) (cuts:=[(2,⟨[0,10],⟨[.own 1105, .int .i64],[(1105, .sl 129)]⟩,[4,8,9],[],[],0,[0],⟨[.own 1105],[(1105, .sl 129)]⟩,[1105]⟩)]) (joins:=[(8,⟨[0,10],⟨[.own 1207, .int .i64],[(1207, .sl 129)]⟩,[],[],[],0,[],⟨[],[]⟩,[]⟩)]) (fl:=some fu)
theorem JR(fu:Nat):zf Tryz.prog (FQ (Ym fu)):=OA ipOK (by kernel_rfl) (YD fu)
theorem vB(fu:Nat):zf Tryz.prog (iM (Js fu)):=
 okC Tryz.f112 (memC (qz fu) (memC (YD fu) zw)) (fl:=some fu)
theorem tF:zf Tryz.prog (PX stringslite_HasPrefix):=
 okC Tryz.f168 zw
theorem Zg:zf Tryz.prog (LU strings_HasPrefix):=
 okC Tryz.f120 (memC tF zw)
theorem YO(fu:Nat):zf Tryz.prog (nN (BB fu)):=
 okC Tryz.f113 (memC Zh (memC Zg (memC (Zx fu) zw))) (fl:=some fu)
theorem yX:zf Tryz.prog (nX stringslite_TrimPrefix):=
 okC Tryz.f288 (memC tF zw)
theorem tV:zf Tryz.prog (vU strings_TrimPrefix):=
 okC Tryz.f254 (memC yX zw)
theorem Yj:zf Tryz.prog (iN Bi):=
 okC Tryz.f226 zw
theorem Yv:zf Tryz.prog (IQ wm):=
 okC Tryz.f213 (memC tV (memC Yj zw))
theorem DD:zf Tryz.prog (OP Su):=
 okC Tryz.f255 zw
theorem Kv:zf Tryz.prog (bN Mm):=
 okC Tryz.f214 (memC DD (memC Yj zw))
theorem YU:zf Tryz.prog (WT strings_Contains):=
 okC Tryz.f215 (memC Gs zw)
theorem xB:zf Tryz.prog (lM Mr):=
 okC Tryz.f165 (memC Zh (memC Yv (memC Zg (memC Kv (memC YU zw))))) (joins:=[(8,⟨[3,4,5,6,7,25],⟨[.bool, .bool, .bool, .bool, .bool, .bool],[]⟩,[1,16],[],[],0,[],⟨[],[]⟩,[]⟩),(14,⟨[3,4,5,6,7,63],⟨[.bool, .bool, .bool, .bool, .bool, .bool],[]⟩,[],[],[],0,[],⟨[],[]⟩,[]⟩),(22,⟨[4,5,6,7,94],⟨[.bool, .bool, .bool, .bool, .bool],[]⟩,[3],[],[],0,[],⟨[],[]⟩,[]⟩),(24,⟨[3,4,5,6,7],⟨[.bool, .bool, .bool, .bool, .bool],[]⟩,[1],[0],[],0,[],⟨[],[]⟩,[]⟩)])
theorem KR:zf Tryz.prog (GQ um):=
 okC Tryz.f216 zw (p:=1)
theorem qH(fu:Nat):zf Tryz.prog (JP (qO fu)):=
 okC Tryz.f197 (memC (Zx fu) zw) (fl:=some fu)
theorem YC(fu:Nat):zf Tryz.prog (aN (Gt fu)):=
 okC Tryz.f166 (memC KR (memC (qH fu) zw)) (joins:=[(11,⟨[5],⟨[.int .i64],[]⟩,[3],[0],[],0,[],⟨[],[]⟩,[]⟩)]) (fl:=some fu)
theorem iC(fu:Nat):zf Tryz.prog (kN (Jt fu)):=
 okC Tryz.f114 (memC xB (memC (YC fu) zw)) (cuts:=[(4,⟨[10],⟨[.int .i64],[]⟩,[0,8,9],[],[],0,[],⟨[],[]⟩,[]⟩)]) (fl:=some fu)
theorem kg:zf Tryz.prog (bK Me):=
 okC Tryz.f118 zw
theorem uS(fu:Nat)(zV:List ze->Option Bool)(h_decl_closers:zf Tryz.prog (qG zV)):zf Tryz.prog (wR (JD fu zV)):=
 okC Tryz.f167 (memC kg (memC h_decl_closers zw)) (fl:=some fu)
theorem AY(fu:Nat)(zV:List ze->Option Bool)(h_decl_closers:zf Tryz.prog (qG zV)):zf Tryz.prog (pX (IG fu zV)):=
 okC Tryz.f94 (memC (uS fu zV h_decl_closers) zw) (cuts:=[(2,⟨[8],⟨[.int .i64],[]⟩,[0,1,7],[],[],0,[],⟨[],[]⟩,[]⟩)]) (fl:=some fu)
theorem RY(fu:Nat)(zV:List ze->Option Bool)(h_decl_closers:zf Tryz.prog (qG zV)):zf Tryz.prog (gY (QW fu zV)):=
 okC Tryz.f116 (memC (AY fu zV h_decl_closers) zw) (fl:=some fu)
theorem TR(fu:Nat)(zV:List ze->Option Bool)(hs:zf Tryz.prog (qG zV)):zf Tryz.prog (qG (Xv fu zV)):=
 okC Tryz.f115 (memC (RY fu zV hs) zw) (fl:=some fu)
theorem MR(fu:Nat):zf Tryz.prog (qG (zV fu)):=ic (qG (zV fu)) (Xv fu) (fun S h=>TR fu S h) fu
theorem yB:zf Tryz.prog (oM Ur):=
 okC Tryz.f119 (memC kg zw)
theorem NR:zf Tryz.prog (JQ IC):=
 okC Tryz.f117 (memC kg (memC yB zw))
theorem UY(fu:Nat):zf Tryz.prog (kX (pF fu)):=
 okC Tryz.f94 (memC NR zw) (cuts:=[(2,⟨[8],⟨[.int .i64],[]⟩,[0,1,7],[],[],0,[],⟨[],[]⟩,[]⟩)]) (fl:=some fu)
theorem uY(fu:Nat):zf Tryz.prog (rY (Qv fu)):=
 okC Tryz.f116 (memC (UY fu) zw) (fl:=some fu)
theorem Nn(fu:Nat):zf Tryz.prog (oN (Pj fu)):=
 okC Tryz.f78 (memC (vB fu) (memC (YO fu) (memC (iC fu) (memC (MR fu) (memC (uY fu) (memC Zg (memC kg zw))))))) (fl:=some fu)
theorem sQ(fu:Nat)(Qr:zm->Option Int)(hs:zf Tryz.prog (Sn Qr)):zf Tryz.prog (Sn (Bv fu Qr)):=
 okC Tryz.f79 (memC hs zw) (cuts:=[(5,⟨[3,17],⟨[.int .i64, .int .i64],[]⟩,[15,16],[],[],0,[3],⟨[.int .i64],[]⟩,[]⟩)]) (joins:=[(4,⟨[3],⟨[.int .i64],[]⟩,[1],[0],[],0,[],⟨[],[]⟩,[]⟩)]) (fl:=some fu)
theorem UQ(fu:Nat):zf Tryz.prog (Sn (Qr fu)):=ic (Sn (Qr fu)) (Bv fu) (fun S h=>sQ fu S h) fu
theorem om:zf Tryz.prog (LM jg):=
 okC Tryz.f124 zw
theorem Qa(fu:Nat):zf Tryz.prog (jV (slices_Index_string fu)):=
 okC Tryz.f286 zw (cuts:=[(2,⟨[8],⟨[.int .i64],[]⟩,[0,1,7],[],[],0,[],⟨[],[]⟩,[]⟩)]) (fl:=some fu)
theorem CY(fu:Nat):zf Tryz.prog (rX (slices_Contains_string fu)):=
 okC Tryz.f246 (memC (Qa fu) zw) (fl:=some fu)
theorem GD(fu:Nat):zf Tryz.prog (XP (Au fu)):=
 okC Tryz.f206 (memC (CY fu) (memC (Zx fu) (memC Zh zw))) (fz:=[(1,[0])]) (fl:=some fu)
theorem ED(fu:Nat):zf Tryz.prog (PP (Tu fu)):=
 okC Tryz.f224 zw (cuts:=[(2,⟨[7],⟨[.int .i64],[]⟩,[5,6],[],[],0,[],⟨[],[]⟩,[]⟩)]) (fl:=some fu)
theorem FD(fu:Nat):zf Tryz.prog (VP (Uu fu)):=
 okC Tryz.f217 (memC (ED fu) zw) (fz:=[(1,[1])]) (fl:=some fu)
theorem aO(fu:Nat):zf Tryz.prog (tN (Ot fu)):=
 okC Tryz.f170 (memC om (memC (GD fu) (memC (FD fu) zw))) (cuts:=[(4,⟨[23],⟨[.int .i64],[]⟩,[21,22],[],[],0,[],⟨[],[]⟩,[]⟩)]) (joins:=[(17,⟨[57],⟨[.bool],[]⟩,[4,23],[1],[],0,[],⟨[],[]⟩,[]⟩),(19,⟨[23],⟨[.int .i64],[]⟩,[],[],[],0,[],⟨[],[]⟩,[]⟩)]) (fl:=some fu)
theorem bO:zf Tryz.prog (uN CB):=
 okC Tryz.f171 zw
theorem EM(fu:Nat):zf Tryz.prog (MM (KA fu)):=
 okC Tryz.f123 (memC om (memC (aO fu) (memC bO zw))) (fl:=some fu)
theorem UV(fu:Nat):zf Tryz.prog (UU (pE fu)):=
 okC Tryz.f122 (memC (EM fu) zw) (fl:=some fu)
theorem AX(fu:Nat):zf Tryz.prog (VX (UF fu)):=
 okC Tryz.f169 (memC (UV fu) zw) (cuts:=[(2,⟨[8],⟨[.int .i64],[]⟩,[0,1,7],[],[],0,[],⟨[],[]⟩,[]⟩)]) (fl:=some fu)
theorem WY(fu:Nat):zf Tryz.prog (mX (sF fu)):=
 okC Tryz.f121 (memC (AX fu) zw) (fl:=some fu)
theorem fw(fu:Nat):zf Tryz.prog (DU (Wn fu)):=
 okC Tryz.f80 (memC (WY fu) (memC om zw)) (fl:=some fu)
theorem uM(fu:Nat)(Eg:zm->Option Int)(hs:zf Tryz.prog (ym Eg)):zf Tryz.prog (ym (tu fu Eg)):=
 okC Tryz.f81 (memC (Jv fu) (memC hs zw)) (cuts:=[(9,⟨[5,27],⟨[.int .i64, .int .i64],[]⟩,[2,25,26],[],[],1,[5],⟨[.int .i64],[]⟩,[]⟩)]) (joins:=[(14,⟨[5,8],⟨[.int .i64, .int .i64],[]⟩,[27],[],[],0,[],⟨[],[]⟩,[]⟩)]) (fl:=some fu)
theorem iO(fu:Nat):zf Tryz.prog (ym (Eg fu)):=ic (ym (Eg fu)) (tu fu) (fun S h=>uM fu S h) fu
theorem DC:zf Tryz.prog (JM Es):=
 okC Tryz.f172 zw
theorem UM(fu:Nat)(Dg:zm×Int->Option ((Int×Bool)×Int))(hs:zf Tryz.prog (Xm Dg)):zf Tryz.prog (Xm (Bu fu Dg)):=
 okC Tryz.f125 (memC (Jv fu) (memC (Nn fu) (memC om (memC hs (memC DC zw))))) (p:=1) (cuts:=[(19,⟨[9,97],⟨[.int .i64, .int .i64],[(0, .row 3)]⟩,[1,95,96],[],[0],1,[9],⟨[.int .i64],[(0, .row 3)]⟩,[0]⟩)]) (joins:=[(15,⟨[69],⟨[.bool],[]⟩,[1,2,6],[0,1],[],0,[],⟨[],[]⟩,[]⟩),(26,⟨[9,12],⟨[.int .i64, .int .i64],[]⟩,[97],[0],[],0,[],⟨[],[]⟩,[]⟩)]) (fl:=some fu)
theorem bM(fu:Nat):zf Tryz.prog (Xm (Dg fu)):=ic (Xm (Dg fu)) (Bu fu) (fun S h=>UM fu S h) fu
theorem Qo(fu:Nat):zf Tryz.prog (BV (Qe fu)):=
 okC Tryz.f82 (memC (bM fu) zw) (fl:=some fu)
theorem vM(fu:Nat)(Fg:List zA->Option zK)(hs:zf Tryz.prog (Bn Fg)):zf Tryz.prog (Bn (wu fu Fg)):=
 okC Tryz.f50 (memC hs (memC (BZ fu) (memC (kS fu) (memC (uD fu) (memC TQ (memC (Jv fu) (memC (Nn fu) (memC (UQ fu) (memC (fw fu) (memC (iO fu) (memC (Qo fu) zw))))))))))) (cuts:=[(3,⟨[18],⟨[.int .i64],[(1, .row 113)]⟩,[2,3,16,17],[0],[1],0,[],⟨[],[(1, .row 113)]⟩,[1]⟩),(17,⟨[10,87],⟨[.bool, .int .i64],[(3, .row 113)]⟩,[6,7,18,85,86],[1],[3],3,[10],⟨[.bool],[(3, .row 113)]⟩,[3]⟩)]) (joins:=[(35,⟨[7,10],⟨[.int .i64, .bool],[(1, .row 113),(3, .row 113)]⟩,[6,18],[],[1,3],0,[],⟨[],[]⟩,[]⟩)]) (fl:=some fu) (exS:=⟨[.optr 0],[(0, .row 113)]⟩)
theorem mO(fu:Nat):zf Tryz.prog (Bn (Fg fu)):=ic (Bn (Fg fu)) (wu fu) (fun S h=>vM fu S h) fu
theorem VD(fu:Nat):zf Tryz.prog (kP (Hu fu)):=
 okC Tryz.f34 (memC (mO fu) zw) (fl:=some fu)
theorem QT(fu:Nat):zf Tryz.prog (mP (og fu)):=
 okC Tryz.f23 (memC (VD fu) zw) (fl:=some fu)
theorem TD(fu:Nat):zf Tryz.prog (dP (Fu fu)):=
 okC Tryz.f19 (memC (QT fu) zw) (cuts:=[(5,⟨[3,23],⟨[.int .i64, .int .i64],[]⟩,[1,21,22],[0],[],0,[],⟨[],[]⟩,[]⟩)]) (fl:=some fu)
theorem wX(fu:Nat):zf Tryz.prog (IY (Qc fu)):=
 okC Tryz.f92 (memC Zg (memC Gs zw)) (p:=1) (cuts:=[(0,⟨[],⟨[],[(0, .row 167)]⟩,[0],[],[0],0,[],⟨[],[(0, .row 167)]⟩,[0]⟩)]) (fl:=some fu)
theorem zL:zf Tryz.prog (pU zu):=
 okC Tryz.f138 zw (p:=1)
theorem QV:zf Tryz.prog (JO Ci):=
 okC Tryz.f139 zw
theorem Qb(fu:Nat):zf Tryz.prog (fV (qg fu)):=
 okC Tryz.f140 (memC zL (memC QV zw)) (p:=1) (cuts:=[(0,⟨[],⟨[],[(0, .row 167)]⟩,[0,1],[],[0],0,[],⟨[],[(0, .row 167)]⟩,[0]⟩)]) (fl:=some fu)
theorem LY:zf Tryz.prog (YY Q3):=
 okC Tryz.f271 zw (fz:=[(2,[1]),(4,[9]),(7,[14]),(9,[19])]) (joins:=[(7,⟨[25],⟨[.bool],[]⟩,[0,1,5],[],[],0,[],⟨[],[]⟩,[]⟩)])
theorem DV:zf Tryz.prog (FU Dw):=
 okC Tryz.f236 (memC LY zw) (fz:=[(2,[3])])
theorem Vn:zf Tryz.prog (mQ Wj):=
 okC Tryz.f238 zw
theorem QU:zf Tryz.prog (bP ng):=
 okC Tryz.f194 (memC Vn zw)
theorem UC:zf Tryz.prog (dL Dj):=
 okC Tryz.f237 (memC QU (memC Vn zw))
theorem eX(fu:Nat):zf Tryz.prog (FY (wF fu)):=
 okC Tryz.f192 (memC zL (memC DV (memC UC (memC QV zw)))) (fz:=[(7,[3])]) (p:=1) (cuts:=[(10,⟨[6,36],⟨[.int .i64, .int .i64],[(0, .row 167)]⟩,[0,1,4],[],[0],0,[6],⟨[.int .i64],[(0, .row 167)]⟩,[0]⟩)]) (joins:=[(17,⟨[6],⟨[.int .i64],[(0, .row 167)]⟩,[1],[],[0],0,[],⟨[],[]⟩,[]⟩),(19,⟨[6],⟨[.int .i64],[]⟩,[],[0],[],0,[],⟨[],[]⟩,[]⟩)]) (fl:=some fu)
theorem KY:zf Tryz.prog (XY Q4):=
 okC Tryz.f271 zw (fz:=[(2,[1]),(4,[9]),(7,[14]),(9,[19])]) (p:=1) (joins:=[(7,⟨[25],⟨[.bool],[(0, .sl 5)]⟩,[0,1,5],[],[0],0,[],⟨[],[]⟩,[]⟩)])
theorem CV:zf Tryz.prog (EU Cw):=
 okC Tryz.f236 (memC KY zw) (fz:=[(2,[3])]) (p:=1)
theorem qh(fu:Nat):zf Tryz.prog (EY (Z4 fu)):=
 okC Tryz.f192 (memC zL (memC CV (memC UC (memC QV zw)))) (fz:=[(7,[3])]) (p:=2) (cuts:=[(10,⟨[6,36],⟨[.int .i64, .int .i64],[(0, .row 167)]⟩,[0,1,4],[1],[0],0,[6],⟨[.int .i64],[(0, .row 167)]⟩,[0]⟩)]) (joins:=[(17,⟨[6],⟨[.int .i64],[(0, .row 167),(1, .sl 5)]⟩,[1],[],[0,1],0,[],⟨[],[]⟩,[]⟩),(19,⟨[6],⟨[.int .i64],[(1, .sl 5)]⟩,[],[0],[1],0,[],⟨[],[]⟩,[]⟩)]) (fl:=some fu)
theorem yV(fu:Nat):zf Tryz.prog (XW (rE fu)):=
 okC Tryz.f141 (memC zL (memC (qh fu) zw)) (fz:=[(5,[3])]) (p:=1) (cuts:=[(4,⟨[4],⟨[.own 1208],[(0, .row 167),(1, .row 129),(1208, .sl 5)]⟩,[0,2,3],[],[0,1],0,[4],⟨[.own 1208],[(0, .row 167),(1, .row 129),(1208, .sl 5)]⟩,[0,1,1208]⟩)]) (fl:=some fu) (exS:=⟨[.optr 1],[(0, .row 167),(1, .row 129)]⟩)
theorem RD:zf Tryz.prog (aP Tm):=
 okC Tryz.f193 (memC Vn zw)
theorem oD:zf Tryz.prog (oQ Wu):=
 okC Tryz.f142 (memC RD (memC QU zw))
theorem ZI:zf Tryz.prog (aW Zw):=
 okC Tryz.f143 (memC zL zw) (p:=1)
theorem bF:zf Tryz.prog (sU qB):=
 okC Tryz.f144 (memC zL (memC RD (memC ZI zw))) (p:=1)
theorem Qp(fu:Nat):zf Tryz.prog (oU (qD fu)):=
 okC Tryz.f145 (memC zL (memC oD (memC ZI (memC (qh fu) zw)))) (fz:=[(5,[3])]) (p:=1) (cuts:=[(2,⟨[3],⟨[.own 1209],[(0, .row 167),(1209, .sl 5)]⟩,[0],[],[0],0,[],⟨[],[]⟩,[]⟩)]) (fl:=some fu)
theorem CW:zf Tryz.prog (YW uE):=
 okC Tryz.f146 (memC zL (memC QU zw)) (p:=1) (joins:=[(5,⟨[3],⟨[.int .i64],[]⟩,[0],[],[],0,[],⟨[],[]⟩,[]⟩),(7,⟨[3],⟨[.int .i64],[]⟩,[],[],[],0,[],⟨[],[]⟩,[]⟩)])
theorem rW(fu:Nat):zf Tryz.prog (JX (qC fu)):=
 okC Tryz.f140 (memC zL (memC QU zw)) (p:=1) (cuts:=[(0,⟨[],⟨[],[(0, .row 167)]⟩,[0,1],[],[0],0,[],⟨[],[(0, .row 167)]⟩,[0]⟩)]) (fl:=some fu)
theorem uW(fu:Nat):zf Tryz.prog (MX (RF fu)):=
 okC Tryz.f195 (memC zL (memC (rW fu) (memC QU zw))) (p:=1) (joins:=[(4,⟨[],⟨[],[(0, .row 167)]⟩,[0],[],[0],0,[],⟨[],[]⟩,[]⟩),(10,⟨[4],⟨[.bool],[(0, .row 167)]⟩,[],[],[0],0,[],⟨[],[]⟩,[]⟩),(15,⟨[4,5],⟨[.bool, .int .i64],[(0, .row 167)]⟩,[],[],[0],0,[],⟨[],[]⟩,[]⟩),(19,⟨[4],⟨[.bool],[(0, .row 167)]⟩,[],[],[0],0,[],⟨[],[]⟩,[]⟩)]) (fl:=some fu)
theorem FV(fu:Nat):zf Tryz.prog (GU (SE fu)):=
 okC Tryz.f196 (memC gJ (memC YM (memC dH zw))) (cuts:=[(8,⟨[6,31],⟨[.int .i64, .int .i64],[]⟩,[0,2,3,4,5,29,30],[0],[],0,[6],⟨[.int .i64],[]⟩,[]⟩),(22,⟨[12,81],⟨[.int .i64, .int .i64],[]⟩,[4,79,80],[0],[],2,[12],⟨[.int .i64],[]⟩,[]⟩),(26,⟨[4,12],⟨[.int .i64, .int .i64],[]⟩,[],[],[],4,[12],⟨[.int .i64],[]⟩,[]⟩)]) (joins:=[(14,⟨[0,4,6],⟨[.str, .int .i64, .int .i64],[]⟩,[3,5],[],[],0,[],⟨[],[]⟩,[]⟩),(15,⟨[0,4],⟨[.str, .int .i64],[]⟩,[3],[],[],0,[],⟨[],[]⟩,[]⟩),(20,⟨[0,4],⟨[.str, .int .i64],[]⟩,[],[],[],0,[],⟨[],[]⟩,[]⟩),(31,⟨[12],⟨[.int .i64],[]⟩,[],[],[],0,[],⟨[],[]⟩,[]⟩)]) (fl:=some fu)
theorem sW(fu:Nat):zf Tryz.prog (KX (NF fu)):=
 okC Tryz.f147 (memC (uW fu) (memC (FV fu) (memC bF (memC (Qp fu) (memC zL zw))))) (p:=1) (joins:=[(9,⟨[],⟨[],[(0, .row 167),(1, .row 129),(2, .row 129)]⟩,[2,5],[],[0,1,2],0,[],⟨[],[]⟩,[]⟩)]) (fl:=some fu) (exS:=⟨[.optr 1],[(0, .row 167),(1, .row 129)]⟩)
theorem IV(fu:Nat):zf Tryz.prog (JU (QI fu)):=
 okC Tryz.f242 (memC zL (memC ZI (memC (eX fu) zw))) (p:=1) (cuts:=[(1,⟨[],⟨[],[(0, .row 167),(1, .row 129)]⟩,[0,2],[],[0,1],0,[],⟨[],[]⟩,[]⟩)]) (fl:=some fu) (exS:=⟨[.optr 1],[(0, .row 167),(1, .row 129)]⟩)
theorem GV(fu:Nat):zf Tryz.prog (IU (TE fu)):=
 okC Tryz.f198 (memC (Qb fu) (memC zL (memC QV (memC (IV fu) (memC Vn (memC ZI (memC (qh fu) zw))))))) (fz:=[(18,[3])]) (p:=1) (cuts:=[(3,⟨[3],⟨[.own 1210],[(0, .row 167),(1, .row 129),(1210, .sl 5)]⟩,[0,2],[],[0,1],0,[],⟨[],[]⟩,[]⟩)]) (joins:=[(10,⟨[3,4],⟨[.own 1210, .int .i64],[(0, .row 167),(1, .row 129),(1210, .sl 5)]⟩,[],[],[0,1,1210],0,[],⟨[],[]⟩,[]⟩)]) (fl:=some fu) (exS:=⟨[.optr 1],[(0, .row 167),(1, .row 129)]⟩)
theorem IW(fu:Nat):zf Tryz.prog (gV (YE fu)):=
 okC Tryz.f148 (memC (Qp fu) (memC zL (memC (qH fu) (memC (Qb fu) (memC (GV fu) zw))))) (p:=1) (joins:=[(11,⟨[],⟨[],[(0, .row 167),(1, .row 129)]⟩,[2,3],[],[0,1],0,[],⟨[],[]⟩,[]⟩)]) (fl:=some fu) (exS:=⟨[.optr 1],[(0, .row 167),(1, .row 129)]⟩)
theorem rV(fu:Nat):zf Tryz.prog (rU (jE fu)):=
 okC Tryz.f93 (memC zL (memC QV (memC (Qb fu) (memC (yV fu) (memC oD (memC ZI (memC bF (memC (Qp fu) (memC CW (memC (sW fu) (memC Zg (memC (IW fu) (memC Zh zw))))))))))))) (p:=1) (fl:=some fu) (exS:=⟨[.optr 1],[(0, .row 167),(1, .row 129)]⟩)
theorem XU:zf Tryz.prog (UT xD):=
 okC Tryz.f59 zw (fz:=[(1,[2])]) (p:=2)
theorem vQ(fu:Nat):zf Tryz.prog (nQ (fB fu)):=
 okC Tryz.f58 (memC kJ (memC (wX fu) (memC (rV fu) (memC XU zw)))) (p:=1) (cuts:=[(7,⟨[7],⟨[.int .i64],[(0, .cells 104 [.own 1211]),(1211, .sl 129),(1, .row 167)]⟩,[0,1,6],[],[0,1],0,[],⟨[],[(0, .cells 104 [.own 1211]),(1211, .sl 129),(1, .row 167)]⟩,[0,1,1211]⟩)]) (fl:=some fu)
theorem Bw(fu:Nat):zf Tryz.prog (pQ (Ei fu)):=
 okC Tryz.f42 (memC (vQ fu) zw) (fl:=some fu)
theorem nO:zf Tryz.prog (MN Ut):=
 okC Tryz.f62 zw
theorem XV(fu:Nat):zf Tryz.prog (wU (mE fu)):=
 okC Tryz.f149 zw (p:=1) (cuts:=[(2,⟨[8],⟨[.int .i64],[]⟩,[0,1,7],[],[],0,[],⟨[],[]⟩,[]⟩)]) (fl:=some fu)
theorem BX(fu:Nat):zf Tryz.prog (WX (VF fu)):=
 okC Tryz.f96 (memC (XV fu) zw) (p:=1) (fl:=some fu)
theorem WR(fu:Nat):zf Tryz.prog (WS (lC fu)):=
 okC Tryz.f95 (memC (BX fu) zw) (p:=2) (fl:=some fu)
theorem jY(fu:Nat):zf Tryz.prog (jX (oF fu)):=
 okC Tryz.f94 (memC (WR fu) zw) (p:=2) (cuts:=[(2,⟨[8],⟨[.int .i64],[]⟩,[0,1,7],[],[],0,[],⟨[],[]⟩,[]⟩)]) (fl:=some fu)
theorem PQ(fu:Nat):zf Tryz.prog (eP (XB fu)):=
 okC Tryz.f64 (memC (jY fu) zw) (p:=1) (fl:=some fu)
theorem ZK:zf Tryz.prog (mV Zb):=
 okC Tryz.f282 zw (p:=1) (exS:=⟨[.optr 1],[(1, .row 129)]⟩)
theorem qM(fu:Nat):zf Tryz.prog (YX (Ze fu)):=
 okC Tryz.f280 (memC ZK zw) (p:=1) (cuts:=[(2,⟨[],⟨[],[(0, .row 361)]⟩,[0,2,3],[],[0],0,[],⟨[],[(0, .row 361)]⟩,[0]⟩)]) (fl:=some fu)
theorem qZ:zf Tryz.prog (kW qd):=
 okC Tryz.f283 (memC ZK zw) (p:=1)
theorem OW(fu:Nat):zf Tryz.prog (jW (Tw fu)):=
 okC Tryz.f281 (memC qZ (memC (qM fu) zw)) (p:=1) (cuts:=[(2,⟨[4],⟨[.int .i64],[(0, .row 361)]⟩,[0],[],[0],0,[],⟨[],[(0, .row 361)]⟩,[0]⟩)]) (fl:=some fu)
theorem NW:zf Tryz.prog (gW Sw):=
 okC Tryz.f305 zw (p:=1)
theorem NG:zf Tryz.prog (iW qf):=
 okC Tryz.f285 zw (p:=1)
theorem ER(fu:Nat):zf Tryz.prog (yP (MC fu)):=
 okC Tryz.f304 (memC (qM fu) (memC ZK (memC (Zx fu) (memC NG (memC qZ (memC Gs (memC (qH fu) zw))))))) (joins:=[(20,⟨[],⟨[],[(0, .cells 78 [.int .u8, .str, .int .u8, .str, .bool, .int .i64, .int .i64, .bool, .nilv]),(1, .row 361),(2, .cells 78 [.int .u8, .str, .int .u8, .str, .bool, .int .i64, .int .i64, .bool, .nilv])]⟩,[2,4,5],[],[0,1,2],0,[],⟨[],[]⟩,[]⟩)]) (fl:=some fu) (exS:=⟨[.optr 0, .bool],[(0, .row 78)]⟩)
theorem Pw:zf Tryz.prog (xR Jn):=
 okC Tryz.f220 zw (fz:=[(1,[0])])
theorem DR(fu:Nat):zf Tryz.prog (xP (LC fu)):=
 okC Tryz.f306 (memC (Zx fu) (memC Pw (memC (Qa fu) zw))) (fl:=some fu) (exS:=⟨[.optr 0, .bool],[(0, .row 78)]⟩)
theorem aR(fu:Nat):zf Tryz.prog (dS (oC fu)):=
 okC Tryz.f342 (memC (qH fu) zw) (fl:=some fu)
theorem iY(fu:Nat):zf Tryz.prog (iX (mF fu)):=
 okC Tryz.f94 (memC (aR fu) zw) (cuts:=[(2,⟨[8],⟨[.int .i64],[]⟩,[0,1,7],[],[],0,[],⟨[],[]⟩,[]⟩)]) (fl:=some fu)
theorem VQ(fu:Nat)(zF:List ze×zg×Bool×Bool->Option (List zh×Bool))(h_seltext_parts:zf Tryz.prog (ZM zF)):zf Tryz.prog (tO (bB fu zF)):=
 okC Tryz.f325 (memC (iY fu) (memC Uw (memC h_seltext_parts (memC (vB fu) (memC DK zw))))) (joins:=[(8,⟨[1],⟨[.sl 133],[(0, .row 78),(2, .cells 78 [.int .u8, .str, .int .u8, .str, .bool, .int .i64, .int .i64, .bool, .nilv])]⟩,[3,6],[],[0,2],0,[],⟨[],[]⟩,[]⟩)]) (fl:=some fu) (exS:=⟨[.optr 0, .bool],[(0, .row 78)]⟩)
theorem bU(fu:Nat)(zF:List ze×zg×Bool×Bool->Option (List zh×Bool))(h_seltext_parts:zf Tryz.prog (ZM zF)):zf Tryz.prog (aT (CE fu zF)):=
 okC Tryz.f307 (memC Pw (memC (Zx fu) (memC (Qa fu) (memC (VQ fu zF h_seltext_parts) (memC Uw (memC h_seltext_parts zw)))))) (fl:=some fu) (exS:=⟨[.optr 0, .bool],[(0, .row 78)]⟩)
theorem DY(fu:Nat)(zF:List ze×zg×Bool×Bool->Option (List zh×Bool))(h_seltext_parts:zf Tryz.prog (ZM zF)):zf Tryz.prog (tX (KG fu zF)):=
 okC Tryz.f284 (memC ZK (memC NW (memC (ER fu) (memC (DR fu) (memC (bU fu zF h_seltext_parts) zw))))) (fz:=[(24,[2])]) (p:=1) (cuts:=[(2,⟨[6],⟨[.own 1323],[(0, .row 361),(1323, .sl 78)]⟩,[0,3],[1],[0],0,[],⟨[],[]⟩,[]⟩)]) (joins:=[(21,⟨[8],⟨[.bool],[(0, .row 361),(1324, .row 78)]⟩,[6,7],[1323],[0,1324],0,[],⟨[],[]⟩,[]⟩),(22,⟨[6,8],⟨[.own 1323, .bool],[(0, .row 361),(1323, .sl 78),(1324, .row 78)]⟩,[7],[],[0,1323,1324],0,[],⟨[],[]⟩,[]⟩)]) (fl:=some fu)
theorem NV(fu:Nat)(zF:List ze×zg×Bool×Bool->Option (List zh×Bool))(h_seltext_parts:zf Tryz.prog (ZM zF)):zf Tryz.prog (NU (NE fu zF)):=
 okC Tryz.f243 (memC (qM fu) (memC (OW fu) (memC ZK (memC (Zx fu) (memC qZ (memC (DY fu zF h_seltext_parts) (memC (xE fu (zq fu) (IE fu)) (memC NG zw)))))))) (fz:=[(19,[3]),(27,[3])]) (cuts:=[(8,⟨[],⟨[],[(1, .cells 74 [.int .u8, .nilv, .nilv]),(2, .row 361),(3, .cells 74 [.int .u8, .own 1324, .own 1325]),(1324, .sl 71),(1325, .sl 5)]⟩,[],[],[1,2,3],0,[],⟨[],[(1, .cells 74 [.int .u8, .nilv, .nilv]),(2, .row 361),(3, .cells 74 [.int .u8, .own 1326, .own 1325]),(1326, .sl 71),(1325, .sl 5)]⟩,[1,2,3,1325]⟩)]) (joins:=[(8,⟨[],⟨[],[(1, .cells 74 [.int .u8, .nilv, .nilv]),(2, .row 361),(3, .cells 74 [.int .u8, .nilv, .nilv])]⟩,[4,6,8,9],[0],[1,2,3],0,[],⟨[],[]⟩,[]⟩),(15,⟨[],⟨[],[(1, .cells 74 [.int .u8, .nilv, .nilv]),(2, .row 361),(3, .cells 74 [.int .u8, .own 1324, .own 1325]),(1324, .sl 71),(1325, .sl 5),(1326, .cells 71 [.str, .nilv])]⟩,[10],[],[1,2,3,1324,1325,1326],0,[],⟨[],[]⟩,[]⟩),(27,⟨[14],⟨[.int .u8],[(1, .cells 74 [.int .u8, .nilv, .nilv]),(3, .cells 74 [.int .u8, .own 1328, .own 1325]),(1328, .sl 71),(1325, .sl 5)]⟩,[],[2,1326],[1,3,1325,1328],0,[],⟨[],[]⟩,[]⟩)]) (fl:=some fu) (exS:=⟨[.optr 0, .bool],[(0, .row 74)]⟩)
theorem VS(fu:Nat)(zF:List ze×zg×Bool×Bool->Option (List zh×Bool))(hs:zf Tryz.prog (ZM zF)):zf Tryz.prog (ZM (vv fu zF)):=
 okC Tryz.f199 (memC (NV fu zF hs) zw) (fz:=[(9,[2])]) (cuts:=[(4,⟨[10,11,18],⟨[.own 1219, .int .i64, .int .i64],[(1219, .sl 74)]⟩,[0,2,3,5,17],[0],[],0,[10],⟨[.own 1219],[(1219, .sl 74)]⟩,[1219]⟩)]) (joins:=[(12,⟨[10],⟨[.own 1321],[(1321, .sl 74)]⟩,[12,18],[],[],0,[],⟨[],[]⟩,[]⟩),(13,⟨[10,11,18],⟨[.own 1322, .int .i64, .int .i64],[(1322, .sl 74)]⟩,[],[],[],0,[],⟨[],[]⟩,[]⟩)]) (fl:=some fu)
theorem YR(fu:Nat):zf Tryz.prog (ZM (zF fu)):=ic (ZM (zF fu)) (vv fu) (fun S h=>VS fu S h) fu
theorem rO(fu:Nat):zf Tryz.prog (RN (WA fu)):=
 okC Tryz.f150 (memC (qz fu) (memC (YR fu) (memC (sD fu) zw))) (fl:=some fu)
theorem FW(fu:Nat):zf Tryz.prog (lF (wE fu)):=
 okC Tryz.f101 zw (fl:=some fu)
theorem fF(fu:Nat):zf Tryz.prog (lF (Qh fu)):=(FW fu).le (dV fu)
theorem PM(fu:Nat)(QS:List ze->Option (List ze))(hs:zf Tryz.prog (Vm QS)):zf Tryz.prog (Vm (Ku fu QS)):=
 okC Tryz.f201 (memC (fF fu) (memC hs zw)) (cuts:=[(3,⟨[8],⟨[.int .i64],[(0, .sl 133)]⟩,[0,2,7],[],[0],0,[],⟨[],[(0, .sl 133)]⟩,[0]⟩)]) (fl:=some fu)
theorem XC(fu:Nat):zf Tryz.prog (Vm (QS fu)):=ic (Vm (QS fu)) (Ku fu) (fun S h=>PM fu S h) fu
theorem Gv(fu:Nat):zf Tryz.prog (VN (Km fu)):=
 okC Tryz.f152 (memC (qz fu) (memC (XC fu) zw)) (fz:=[(12,[7]),(15,[5])]) (cuts:=[(9,⟨[7,8,24],⟨[.own 1328, .int .i64, .int .i64],[(1328, .sl 37)]⟩,[0,1,4,5,22,23],[],[],0,[7,8],⟨[.own 1328, .int .i64],[(1328, .sl 37)]⟩,[1328]⟩)]) (joins:=[(14,⟨[7,8,24],⟨[.own 1430, .int .i64, .int .i64],[(1430, .sl 37)]⟩,[],[],[],0,[],⟨[],[]⟩,[]⟩)]) (fl:=some fu)
theorem aM(fu:Nat):zf Tryz.prog (nM (Cm fu)):=
 okC Tryz.f245 (memC kg zw) (cuts:=[(1,⟨[0],⟨[.sl 133],[]⟩,[2],[],[],0,[0],⟨[.sl 133],[]⟩,[]⟩)]) (fl:=some fu)
theorem XO(fu:Nat):zf Tryz.prog (lN (Om fu)):=
 okC Tryz.f244 (memC kg zw) (cuts:=[(1,⟨[0],⟨[.sl 133],[]⟩,[2],[],[],0,[0],⟨[.sl 133],[]⟩,[]⟩)]) (fl:=some fu)
theorem dQ:zf Tryz.prog (CP Nu):=
 okC Tryz.f202 zw (p:=1)
theorem Xu(fu:Nat):zf Tryz.prog (fM (ol fu)):=
 okC Tryz.f153 (memC (qz fu) (memC dQ (memC (XC fu) zw))) (cuts:=[(6,⟨[6],⟨[.int .i64],[]⟩,[1,2,3,5,7],[0],[],0,[6],⟨[.int .i64],[]⟩,[]⟩),(8,⟨[7],⟨[.int .i64],[]⟩,[1,2,3,5,6],[0],[],2,[7],⟨[.int .i64],[]⟩,[]⟩)]) (fl:=some fu)
theorem VB(fu:Nat):zf Tryz.prog (vK (lq fu)):=
 okC Tryz.f200 (memC (aM fu) (memC (XO fu) (memC kg (memC Zg (memC (Zx fu) (memC (qH fu) (memC yB (memC (Xu fu) (memC (Nn fu) zw))))))))) (joins:=[(7,⟨[0],⟨[.sl 133],[(0, .cells 39 [.str, .nilv, .bool]),(1, .cells 39 [.str, .nilv, .bool])]⟩,[2,4],[],[0,1],0,[],⟨[],[]⟩,[]⟩),(16,⟨[0],⟨[.sl 133],[(0, .cells 39 [.str, .nilv, .bool]),(1, .cells 39 [.str, .nilv, .bool])]⟩,[],[],[0,1],0,[],⟨[],[]⟩,[]⟩)]) (fl:=some fu) (exS:=⟨[.optr 0, .bool],[(0, .row 39)]⟩)
theorem CK(fu:Nat):zf Tryz.prog (cK (Ny fu)):=
 okC Tryz.f151 (memC (Gv fu) (memC (VB fu) zw)) (fz:=[(10,[2])]) (cuts:=[(6,⟨[6,21],⟨[.own 1432, .int .i64],[(1432, .sl 39)]⟩,[2,3,19,20],[],[],0,[6],⟨[.own 1432],[(1432, .sl 39)]⟩,[1432]⟩)]) (joins:=[(11,⟨[6,21],⟨[.own 1534, .int .i64],[(1534, .sl 39)]⟩,[],[],[],0,[],⟨[],[]⟩,[]⟩)]) (fl:=some fu)
theorem RQ(fu:Nat):zf Tryz.prog (fP (YB fu)):=
 okC Tryz.f97 (memC (rO fu) (memC (CK fu) zw)) (fl:=some fu) (exS:=⟨[.optr 0, .bool],[(0, .row 45)]⟩)
end Go.Lv.VT
end
