/- Contracts. -/
import Derived.Test.YtkecjfeffabgiaaGreatDoorTx
import Derived.Test.YtkecjfeffabgiaaGreatDoorIp
import Derived.Test.YtkecjfeffabgiaaGreatDoorLf
import Derived.Test.YtkecjfeffabgiaaGreatDoorPa
noncomputable section
set_option linter.unusedSimpArgs false
set_option linter.unusedVariables false
namespace Go.Lv.VT
set_option maxRecDepth 100000
open Go.Proofs
theorem okC{con:Con I}{A:Env0 I}{exS:StSh}(f:Go.Func)(hS: ∀c∈A.S,zm Tryz.prog c)(hf:Tryz.prog.funcs[con.f]? =some f)(h:chk con A f=true)(he: ∀x,evF2 A T FK f.ntmps (rsl f) (body f) con exS x=con.F x):zm Tryz.prog con:=
 okC0 mixed ipOK tok rfl rfl hS hf h he
def Bp(F:Int->Option Int):Con I:=⟨58,⟨[.int .u8],[]⟩,[],⟨[.int .u8],[]⟩,0,F⟩
def Li(F:List zg×Int->Option zD):Con I:=⟨85,⟨[.sl 59, .int .u8],[]⟩,[],⟨[.val 111],[]⟩,0,F⟩
def QE(F:List zg->Option Int):Con I:=⟨50,⟨[.sl 59],[]⟩,[],⟨[.int .i64],[]⟩,0,F⟩
def NC(F:List zg->Option (Int×Int)):Con I:=⟨82,⟨[.sl 59],[]⟩,[],⟨[.int .i64, .int .i64],[]⟩,0,F⟩
def Al(F:List zg×List zk->Option (List zk)):Con I:=⟨164,⟨[.own 0, .sl 59],[(0, .sl 57)]⟩,[],⟨[.own 1],[(1, .sl 57)]⟩,1,F⟩
def wC(F:List zg->Option (List zk)):Con I:=⟨164,⟨[.nilv, .sl 59],[]⟩,[],⟨[.own 0],[(0, .sl 57)]⟩,1,F⟩
def SB(F:List zg->Option (List zk×Int)):Con I:=⟨122,⟨[.sl 59],[]⟩,[],⟨[.sl 57, .int .i64],[]⟩,0,F⟩
def Zv(F:Str×Int->Option Int):Con I:=⟨109,⟨[.str, .int .u8],[]⟩,[],⟨[.int .i64],[]⟩,0,F⟩
def QG(F:Str×Str->Option Bool):Con I:=⟨173,⟨[.str, .str],[]⟩,[],⟨[.bool],[]⟩,0,F⟩
def Zb(F:Str×Str->Option Bool):Con I:=⟨130,⟨[.str, .str],[]⟩,[],⟨[.bool],[]⟩,0,F⟩
def Si(F:Str->Option Str):Con I:=⟨91,⟨[.str],[]⟩,[],⟨[.str],[]⟩,0,F⟩
def AC(F:Str->Option Bool):Con I:=⟨123,⟨[.str],[]⟩,[],⟨[.bool],[]⟩,0,F⟩
def yE(F:Str×Str->Option Str):Con I:=⟨266,⟨[.str, .str],[]⟩,[],⟨[.str],[]⟩,0,F⟩
def JE(F:Str×Str->Option Str):Con I:=⟨236,⟨[.str, .str],[]⟩,[],⟨[.str],[]⟩,0,F⟩
def Xi(F:Int->Option Bool):Con I:=⟨158,⟨[.int .u8],[]⟩,[],⟨[.bool],[]⟩,0,F⟩
def Gw(F:Str->Option Bool):Con I:=⟨199,⟨[.str],[]⟩,[],⟨[.bool],[]⟩,0,F⟩
def Pv(F:Int->Option Bool):Con I:=⟨190,⟨[.int .u8],[]⟩,[],⟨[.bool],[]⟩,0,F⟩
def Xo(F:Int->Option Bool):Con I:=⟨157,⟨[.int .u8],[]⟩,[],⟨[.bool],[]⟩,0,F⟩
def wD(F:Str×Str->Option Bool):Con I:=⟨200,⟨[.str, .str],[]⟩,[],⟨[.bool],[]⟩,0,F⟩
def UB(F:zk->Option Bool):Con I:=⟨169,⟨[.val 57],[]⟩,[],⟨[.bool],[]⟩,0,F⟩
def aD(F:(Int×Int)×List zk->Option Bool):Con I:=⟨201,⟨[.int .i64, .int .u8, .optr 0],[(0, .row 62)]⟩,[0],⟨[.bool],[]⟩,0,F⟩
def Ti(F:Str×Str->Option Bool):Con I:=⟨131,⟨[.str, .str],[]⟩,[],⟨[.bool],[]⟩,0,F⟩
def vv(F:List zk->Option Int):Con I:=⟨170,⟨[.sl 57],[]⟩,[],⟨[.int .i64],[]⟩,0,F⟩
def Bw(F:List zk->Option Int):Con I:=⟨124,⟨[.sl 57],[]⟩,[],⟨[.int .i64],[]⟩,0,F⟩
def Fg(F:zg×Int->Option Bool):Con I:=⟨128,⟨[.val 59, .int .u8],[]⟩,[],⟨[.bool],[]⟩,0,F⟩
def jD(F:zg->Option Bool):Con I:=⟨171,⟨[.val 59],[]⟩,[],⟨[.bool],[]⟩,0,F⟩
def BF(F:List zg->Option Int):Con I:=⟨172,⟨[.sl 59, .clo 171 []],[]⟩,[],⟨[.int .i64],[]⟩,0,F⟩
def Q4(F:List zg->Option Bool):Con I:=⟨126,⟨[.sl 59, .clo 171 []],[]⟩,[],⟨[.bool],[]⟩,0,F⟩
def qp(F:List zg->Option Bool):Con I:=⟨125,⟨[.sl 59],[]⟩,[],⟨[.bool],[]⟩,0,F⟩
def Wu(F:zg->Option Bool):Con I:=⟨129,⟨[.val 59],[]⟩,[],⟨[.bool],[]⟩,0,F⟩
def bD(F:zg->Option Bool):Con I:=⟨127,⟨[.val 59],[]⟩,[],⟨[.bool],[]⟩,0,F⟩
def rE(F:List zg->Option Int):Con I:=⟨172,⟨[.sl 59, .clo 127 []],[]⟩,[],⟨[.int .i64],[]⟩,0,F⟩
def QP(F:List zg->Option Bool):Con I:=⟨126,⟨[.sl 59, .clo 127 []],[]⟩,[],⟨[.bool],[]⟩,0,F⟩
def Yo(F:zF->Option Int):Con I:=⟨83,⟨[.val 24],[]⟩,[],⟨[.int .i64],[]⟩,0,F⟩
def ek(F:zh->Option Bool):Con I:=⟨47,⟨[.val 27],[]⟩,[],⟨[.bool],[]⟩,0,F⟩
def Xu(F:zh->Option Bool):Con I:=⟨71,⟨[.val 27],[]⟩,[],⟨[.bool],[]⟩,0,F⟩
def ak(F:zh×Int->Option ((Int×Bool)×Int)):Con I:=⟨48,⟨[.val 27, .optr 0],[(0, .row 3)]⟩,[],⟨[.int .i64, .bool],[(0, .row 3)]⟩,0,F⟩
def qj(F:zh->Option Int):Con I:=⟨18,⟨[.val 27],[]⟩,[],⟨[.int .i64],[]⟩,0,F⟩
def xC(F:Int×List zg->Option Bool):Con I:=⟨106,⟨[.int .i64, .optr 0],[(0, .row 22)]⟩,[0],⟨[.bool],[]⟩,0,F⟩
def ME(F:List zg->Option (List zg)):Con I:=⟨133,⟨[.sl 59],[]⟩,[],⟨[.own 0],[(0, .sl 59)]⟩,1,F⟩
def Ki(F:List zg->Option (List zg)):Con I:=⟨88,⟨[.sl 59],[]⟩,[],⟨[.sl 59],[]⟩,0,F⟩
def Uu(F:List zg->Option (List zg×Int)):Con I:=⟨62,⟨[.sl 59],[]⟩,[],⟨[.sl 59, .int .i64],[]⟩,0,F⟩
def Q0(F:zh->Option (List zF)):Con I:=⟨33,⟨[.val 27],[]⟩,[],⟨[.sl 24],[]⟩,0,F⟩
def Wv(F:zh->Option (List zF×Int)):Con I:=⟨10,⟨[.val 27],[]⟩,[],⟨[.sl 24, .int .i64],[]⟩,0,F⟩
def mE(F:List Str×Str->Option Int):Con I:=⟨175,⟨[.sl 9, .str],[]⟩,[],⟨[.int .i64],[]⟩,0,F⟩
def CF(F:List Str×Str->Option Bool):Con I:=⟨134,⟨[.sl 9, .str],[]⟩,[],⟨[.bool],[]⟩,0,F⟩
def Tv(F:Str->Option Bool):Con I:=⟨92,⟨[.str],[]⟩,[],⟨[.bool],[]⟩,0,F⟩
def Rv(F:List Int->Option Int):Con I:=⟨113,⟨[.sl 2],[]⟩,[],⟨[.int .i64],[]⟩,0,F⟩
def Sv(F:Int->Option Int):Con I:=⟨121,⟨[.int .i64],[]⟩,[],⟨[.int .i64],[]⟩,0,F⟩
def BC(F:zh->Option Bool):Con I:=⟨80,⟨[.val 27],[]⟩,[],⟨[.bool],[]⟩,0,F⟩
def DC(F:zh->Option Bool):Con I:=⟨81,⟨[.val 27],[]⟩,[],⟨[.bool],[]⟩,0,F⟩
def YB(F:zh->Option Bool):Con I:=⟨46,⟨[.val 27],[]⟩,[],⟨[.bool],[]⟩,0,F⟩
def EE(F:zh->Option Bool):Con I:=⟨45,⟨[.val 27],[]⟩,[],⟨[.bool],[]⟩,0,F⟩
def fE(F:List zh->Option Int):Con I:=⟨79,⟨[.sl 27, .clo 45 []],[]⟩,[],⟨[.int .i64],[]⟩,0,F⟩
def uE(F:List zh->Option Bool):Con I:=⟨44,⟨[.sl 27, .clo 45 []],[]⟩,[],⟨[.bool],[]⟩,0,F⟩
def Sw(F:zh->Option Int):Con I:=⟨16,⟨[.val 27],[]⟩,[],⟨[.int .i64],[]⟩,0,F⟩
def jo(F:zh->Option Int):Con I:=⟨36,⟨[.val 27],[]⟩,[],⟨[.int .i64],[]⟩,0,F⟩
def eD(F:Int×List Bool->Option (Bool×Int)):Con I:=⟨38,⟨[.optr 0, .optr 1],[(0, .row 3),(1, .row 30)]⟩,[1],⟨[.bool],[(0, .row 3)]⟩,0,F⟩
def Jl(F:(zh×Int)×Int×List Bool->Option (Bool×Int)):Con I:=⟨37,⟨[.val 27, .int .i64, .clo 38 [0,1]],[(0, .row 3),(1, .row 30)]⟩,[1],⟨[.bool],[(0, .row 3)]⟩,0,F⟩
def Vv(F:zh×VEnv×List Bool->Option (Bool×Int)):Con I:=⟨12,⟨[.val 27, .val 29, .sl 4],[]⟩,[],⟨[.bool, .int .i64],[]⟩,0,F⟩
def Aw(F:Str->Option Int):Con I:=⟨111,⟨[.str],[]⟩,[],⟨[.int .i64],[]⟩,0,F⟩
def Gp(F:Int×List UInt8->Option (List UInt8)):Con I:=⟨159,⟨[.own 0, .int .u8],[(0, .sl 5)]⟩,[],⟨[.own 1],[(1, .sl 5)]⟩,1,F⟩
def ED(F:Str×Int->Option (List UInt8)):Con I:=⟨110,⟨[.nilv, .str, .int .i64],[]⟩,[],⟨[.own 0],[(0, .sl 5)]⟩,1,F⟩
def Vu(F:Str->Option (Str×Int)):Con I:=⟨67,⟨[.str],[]⟩,[],⟨[.str, .int .i64],[]⟩,0,F⟩
def fD(F:Int×Int×List UInt8->Option (Int×List UInt8)):Con I:=⟨114,⟨[.int .u8, .optr 0, .optr 1],[(0, .row 3),(1, .sl 5)]⟩,[],⟨[],[(0, .row 3),(1, .sl 5)]⟩,0,F⟩
def FD(F:Int->Option (Str×Int)):Con I:=⟨69,⟨[.int .i64],[]⟩,[],⟨[.str, .int .i64],[]⟩,0,F⟩
def XB(F:List zh×Str->Option Str):Con I:=⟨68,⟨[.sl 27, .str, .clo 41 []],[]⟩,[],⟨[.str],[]⟩,0,F⟩
def Q3(F:zh->Option Str):Con I:=⟨41,⟨[.val 27],[]⟩,[],⟨[.str],[]⟩,0,F⟩
def DD(F:(Str×Int)×List UInt8->Option (List UInt8)):Con I:=⟨110,⟨[.own 0, .str, .int .i64],[(0, .sl 5)]⟩,[],⟨[.own 1],[(1, .sl 5)]⟩,1,F⟩
def OC(F:Unit->Option QQ):Con I:=⟨221,⟨[],[]⟩,[],⟨[.val 230],[]⟩,0,F⟩
def mD(F:(Int×Bool)×List UInt8->Option (List UInt8)):Con I:=⟨220,⟨[.own 0, .int .i64, .bool],[(0, .sl 5)]⟩,[],⟨[.own 1],[(1, .sl 5)]⟩,1,F⟩
def BD(F:zk×List UInt8->Option (List UInt8)):Con I:=⟨194,⟨[.own 0, .val 57],[(0, .sl 5)]⟩,[],⟨[.own 1],[(1, .sl 5)]⟩,1,F⟩
def xE(F:za->Option za):Con I:=⟨95,⟨[.optr 0],[(0, .row 121)]⟩,[],⟨[],[(0, .row 121)]⟩,0,F⟩
def zG(F:Int×za->Option Int):Con I:=⟨138,⟨[.optr 0, .int .i64],[(0, .row 121)]⟩,[0],⟨[.int .i64],[]⟩,0,F⟩
def Pi(F:Int->Option Bool):Con I:=⟨139,⟨[.int .i64],[]⟩,[],⟨[.bool],[]⟩,0,F⟩
def qW(F:za->Option za):Con I:=⟨140,⟨[.optr 0, .clo 139 []],[(0, .row 121)]⟩,[],⟨[],[(0, .row 121)]⟩,0,F⟩
def Q5(F:Int->Option (List UInt8)):Con I:=⟨244,⟨[.nilv, .int .i32],[]⟩,[],⟨[.own 0],[(0, .sl 5)]⟩,1,F⟩
def OE(F:Int->Option (List UInt8)):Con I:=⟨210,⟨[.nilv, .int .i32],[]⟩,[],⟨[.own 0],[(0, .sl 5)]⟩,1,F⟩
def Wl(F:Int×Int×Int->Option Bool):Con I:=⟨212,⟨[.int .i64, .int .i64, .int .i64],[]⟩,[],⟨[.bool],[]⟩,0,F⟩
def Ri(F:Int->Option Bool):Con I:=⟨182,⟨[.int .i64],[]⟩,[],⟨[.bool],[]⟩,0,F⟩
def Tu(F:Int->Option Int):Con I:=⟨211,⟨[.int .i64],[]⟩,[],⟨[.int .i64],[]⟩,0,F⟩
def wE(F:za->Option (za×List UInt8)):Con I:=⟨180,⟨[.optr 0, .nilv],[(0, .row 121)]⟩,[],⟨[.own 1],[(0, .row 121),(1, .sl 5)]⟩,1,F⟩
def Q6(F:Int×List UInt8->Option (List UInt8)):Con I:=⟨244,⟨[.own 0, .int .i32],[(0, .sl 5)]⟩,[],⟨[.own 1],[(1, .sl 5)]⟩,1,F⟩
def NE(F:Int×List UInt8->Option (List UInt8)):Con I:=⟨210,⟨[.own 0, .int .i32],[(0, .sl 5)]⟩,[],⟨[.own 1],[(1, .sl 5)]⟩,1,F⟩
def ZY(F:za×List UInt8->Option (za×List UInt8)):Con I:=⟨180,⟨[.optr 0, .own 1],[(0, .row 121),(1, .sl 5)]⟩,[],⟨[.own 2],[(0, .row 121),(2, .sl 5)]⟩,1,F⟩
def WE(F:za->Option (zk×za)):Con I:=⟨141,⟨[.optr 0],[(0, .row 121)]⟩,[],⟨[.val 57],[(0, .row 121)]⟩,0,F⟩
def Nv(F:Int->Option Bool):Con I:=⟨181,⟨[.int .i64],[]⟩,[],⟨[.bool],[]⟩,0,F⟩
def Ew(F:Int->Option Bool):Con I:=⟨142,⟨[.int .i64],[]⟩,[],⟨[.bool],[]⟩,0,F⟩
def Zo(F:Int×za->Option Bool):Con I:=⟨143,⟨[.optr 0, .int .i64],[(0, .row 121)]⟩,[0],⟨[.bool],[]⟩,0,F⟩
def fw(F:Int×za->Option Bool):Con I:=⟨144,⟨[.optr 0, .int .i64],[(0, .row 121)]⟩,[0],⟨[.bool],[]⟩,0,F⟩
def Qt(F:za->Option (Str×za)):Con I:=⟨145,⟨[.optr 0],[(0, .row 121)]⟩,[],⟨[.str],[(0, .row 121)]⟩,0,F⟩
def XE(F:za->Option Bool):Con I:=⟨146,⟨[.optr 0],[(0, .row 121)]⟩,[0],⟨[.bool],[]⟩,0,F⟩
def YE(F:za->Option za):Con I:=⟨140,⟨[.optr 0, .clo 182 []],[(0, .row 121)]⟩,[],⟨[],[(0, .row 121)]⟩,0,F⟩
def dE(F:za->Option (Bool×za)):Con I:=⟨183,⟨[.optr 0],[(0, .row 121)]⟩,[],⟨[.bool],[(0, .row 121)]⟩,0,F⟩
def PE(F:Str->Option Int):Con I:=⟨184,⟨[.str],[]⟩,[],⟨[.int .i64],[]⟩,0,F⟩
def bE(F:za->Option (zk×za)):Con I:=⟨147,⟨[.optr 0],[(0, .row 121)]⟩,[],⟨[.val 57],[(0, .row 121)]⟩,0,F⟩
def TE(F:za->Option (zk×za)):Con I:=⟨216,⟨[.optr 0],[(0, .row 121)]⟩,[],⟨[.val 57],[(0, .row 121)]⟩,0,F⟩
def SE(F:za->Option (zk×za)):Con I:=⟨185,⟨[.optr 0],[(0, .row 121)]⟩,[],⟨[.val 57],[(0, .row 121)]⟩,0,F⟩
def jE(F:za->Option (zk×za)):Con I:=⟨148,⟨[.optr 0],[(0, .row 121)]⟩,[],⟨[.val 57],[(0, .row 121)]⟩,0,F⟩
def IE(F:za->Option (zk×za)):Con I:=⟨96,⟨[.optr 0],[(0, .row 121)]⟩,[],⟨[.val 57],[(0, .row 121)]⟩,0,F⟩
def vD(F:(zk×Int×Int)×List zk->Option (List zk)):Con I:=⟨56,⟨[.val 57, .int .i64, .int .i64, .optr 0],[(0, .cells 62 [.own 1]),(1, .sl 57)]⟩,[],⟨[],[(0, .cells 62 [.own 2]),(2, .sl 57)]⟩,1,F⟩
def XD(F:Str->Option (Int×List zk)):Con I:=⟨55,⟨[.str, .clo 56 [0]],[(0, .cells 62 [.nilv])]⟩,[],⟨[.int .i64],[(0, .cells 62 [.own 1]),(1, .sl 57)]⟩,1,F⟩
def Fw(F:Str->Option (List zk×Int)):Con I:=⟨27,⟨[.str],[]⟩,[],⟨[.sl 57, .int .i64],[]⟩,0,F⟩
def KE(F:List zk×List zk->Option Bool):Con I:=⟨195,⟨[.sl 57, .sl 57],[]⟩,[],⟨[.bool],[]⟩,0,F⟩
def SC(F:List zk->Option (Str×Int)):Con I:=⟨163,⟨[.sl 57],[]⟩,[],⟨[.str, .int .i64],[]⟩,0,F⟩
def RB(F:List zg->Option (Str×Int)):Con I:=⟨115,⟨[.sl 59],[]⟩,[],⟨[.str, .int .i64],[]⟩,0,F⟩
def WB(F:zF->Option (Str×Int)):Con I:=⟨72,⟨[.val 24],[]⟩,[],⟨[.str, .int .i64],[]⟩,0,F⟩
def Rw(F:zh×Bool->Option (Str×Bool)):Con I:=⟨70,⟨[.val 27, .optr 0],[(0, .cells 75 [.optr 1]),(1, .row 4)]⟩,[0],⟨[.str],[(1, .row 4)]⟩,0,F⟩
def GD(F:(List zh×Str)×Bool->Option (Str×Bool)):Con I:=⟨68,⟨[.sl 27, .str, .clo 70 [0]],[(0, .cells 75 [.optr 1]),(1, .row 4)]⟩,[0],⟨[.str],[(1, .row 4)]⟩,0,F⟩
def qB(F:zh×Bool->Option (Str×Bool)):Con I:=⟨42,⟨[.val 27, .optr 0],[(0, .row 4)]⟩,[],⟨[.str],[(0, .row 4)]⟩,0,F⟩
def Io(F:zh->Option (Str×Int)):Con I:=⟨14,⟨[.val 27],[]⟩,[],⟨[.str, .int .i64],[]⟩,0,F⟩
def Rp(F:Str->Option (List zg)):Con I:=⟨24,⟨[.str],[]⟩,[],⟨[.sl 59],[]⟩,0,F⟩
def MC(F:List zg×Int->Option (List (List zg)×Int)):Con I:=⟨52,⟨[.sl 59, .int .u8],[]⟩,[],⟨[.sl 22, .int .i64],[]⟩,0,F⟩
def qb(F:zf->Option Int):Con I:=⟨89,⟨[.optr 0],[(0, .row 85)]⟩,[0],⟨[.int .u8],[]⟩,0,F⟩
def qc(F:zf->Option (zg×zf)):Con I:=⟨90,⟨[.optr 0],[(0, .row 85)]⟩,[],⟨[.val 59],[(0, .row 85)]⟩,0,F⟩
def ql(F:zf->Option (Bool×zf)):Con I:=⟨53,⟨[.optr 0],[(0, .row 85)]⟩,[],⟨[.bool],[(0, .row 85)]⟩,0,F⟩
def QV(F:List Str×zf->Option (Str×zf)):Con I:=⟨86,⟨[.optr 0, .sl 9],[(0, .row 85)]⟩,[],⟨[.str],[(0, .row 85)]⟩,0,F⟩
def nE(F:zf->Option ((zh×Bool)×zf)):Con I:=⟨93,⟨[.optr 0],[(0, .row 85)]⟩,[],⟨[.val 27, .bool],[(0, .row 85)]⟩,0,F⟩
def UE(F:zf->Option ((zh×Bool)×zf)):Con I:=⟨54,⟨[.optr 0],[(0, .row 85)]⟩,[],⟨[.val 27, .bool],[(0, .row 85)]⟩,0,F⟩
def Uv(F:List zg->Option (zh×Int)):Con I:=⟨25,⟨[.sl 59],[]⟩,[],⟨[.val 27, .int .i64],[]⟩,0,F⟩
def Ov(F:Str×Str×Int×Int->Option Bool):Con I:=⟨21,⟨[.str, .str, .int .i64, .int .i64],[]⟩,[],⟨[.bool],[]⟩,0,F⟩
def VB(F:List zg->Option (List zg)):Con I:=⟨203,⟨[.sl 59],[]⟩,[],⟨[.sl 59],[]⟩,0,F⟩
def UC(F:List zg->Option (List zg)):Con I:=⟨202,⟨[.sl 59],[]⟩,[],⟨[.sl 59],[]⟩,0,F⟩
def yA(F:List zg->Option (zF×Bool)):Con I:=⟨174,⟨[.sl 59],[]⟩,[],⟨[.val 24, .bool],[]⟩,0,F⟩
def AB(F:List zg->Option (zF×Bool×Int)):Con I:=⟨132,⟨[.sl 59],[]⟩,[],⟨[.val 24, .bool, .int .i64],[]⟩,0,F⟩
def xD(F:zf->Option ((zh×Bool)×zf)):Con I:=⟨87,⟨[.optr 0],[(0, .row 85)]⟩,[],⟨[.val 27, .bool],[(0, .row 85)]⟩,0,F⟩
def qd(F:zf->Option ((zh×Bool)×zf)):Con I:=⟨51,⟨[.optr 0],[(0, .row 85)]⟩,[],⟨[.val 27, .bool],[(0, .row 85)]⟩,0,F⟩
def Mw(F:List zg->Option (zh×Int)):Con I:=⟨23,⟨[.sl 59],[]⟩,[],⟨[.val 27, .int .i64],[]⟩,0,F⟩
def kD(F:Int×List Bool->Option (Bool×Int)):Con I:=⟨38,⟨[.optr 0, .optr 1],[(0, .row 3),(1, .cells 30 [.own 2]),(2, .sl 4)]⟩,[1,2],⟨[.bool],[(0, .row 3)]⟩,0,F⟩
def Xl(F:(zh×Int)×Int×List Bool->Option (Bool×Int)):Con I:=⟨37,⟨[.val 27, .int .i64, .clo 38 [0,1]],[(0, .row 3),(1, .cells 30 [.own 2]),(2, .sl 4)]⟩,[1,2],⟨[.bool],[(0, .row 3)]⟩,0,F⟩
def dD(F:(zh×VEnv)×List Bool->Option (Bool×Int)):Con I:=⟨12,⟨[.val 27, .val 29, .own 0],[(0, .sl 4)]⟩,[0],⟨[.bool, .int .i64],[]⟩,0,F⟩
def dw(F:Str×Str×Bool×Bool->Option Bool):Con I:=⟨22,⟨[.str, .str, .bool, .bool],[]⟩,[],⟨[.bool],[]⟩,0,F⟩
def yC(F:Unit->Option Bool):Con I:=⟨26,⟨[],[]⟩,[],⟨[.bool],[]⟩,0,F⟩
def NM(F:Unit->Option Bool):Con I:=⟨4,⟨[],[]⟩,[],⟨[.bool],[]⟩,0,F⟩
def YD(F:List zg->Option (List zk)):Con I:=⟨164,⟨[.nilv, .sl 59],[]⟩,[],⟨[.sl 57],[]⟩,0,F⟩
def Jz(F:Str->Option (Str×Int)):Con I:=⟨94,⟨[.str],[]⟩,[],⟨[.str, .int .i64],[]⟩,0,F⟩
theorem OH:zm Tryz.prog (Jz Xh):=VI
def LA(F:Str×Int->Option Int):Con I:=⟨156,⟨[.str, .int .u8],[]⟩,[],⟨[.int .i64],[]⟩,0,F⟩
theorem xI:zm Tryz.prog (LA Jj):=FJ
def Rs(F:Str×Str->Option Int):Con I:=⟨137,⟨[.str, .str],[]⟩,[],⟨[.int .i64],[]⟩,0,F⟩
theorem kz:zm Tryz.prog (Rs Og):=UI
def Gz(F:Str×Str->Option Str):Con I:=⟨213,⟨[.str, .str],[]⟩,[],⟨[.str],[]⟩,0,F⟩
theorem LH:zm Tryz.prog (Gz Kg):=RI
def Fz(F:Str×Str->Option Str):Con I:=⟨258,⟨[.str, .str],[]⟩,[],⟨[.str],[]⟩,0,F⟩
theorem KH:zm Tryz.prog (Fz Mh):=PI
def TB(F:Str×Str->Option Int):Con I:=⟨214,⟨[.str, .str],[]⟩,[],⟨[.int .i64],[]⟩,0,F⟩
theorem WJ:zm Tryz.prog (TB Vj):=PK
def ax(F:Str×Str->Option (Str×Str×Bool)):Con I:=⟨215,⟨[.str, .str],[]⟩,[],⟨[.str, .str, .bool],[]⟩,0,F⟩
theorem eF:zm Tryz.prog (ax cutF):=uG
def NA(F:Int×Int->Option Str):Con I:=⟨259,⟨[.int .i64, .int .i64],[]⟩,[],⟨[.str],[]⟩,0,F⟩
theorem yI:zm Tryz.prog (NA gm):=mI
def bA(F:(Int×Int)×List UInt8->Option (List UInt8)):Con I:=⟨191,⟨[.own 0, .int .u64, .int .i64],[(0, .sl 5)]⟩,[],⟨[.own 1],[(1, .sl 5)]⟩,1,F⟩
theorem dJ:zm Tryz.prog (bA Kn):=nJ
def dA(F:(Int×Int)×List UInt8->Option (List UInt8)):Con I:=⟨257,⟨[.own 0, .int .i64, .int .i64],[(0, .sl 5)]⟩,[],⟨[.own 1],[(1, .sl 5)]⟩,1,F⟩
theorem fJ:zm Tryz.prog (dA Nn):=oJ
def Iz(F:List zk->Option (List zg×Int)):Con I:=⟨28,⟨[.sl 57],[]⟩,[],⟨[.sl 59, .int .i64],[]⟩,0,F⟩
theorem NH:zm Tryz.prog (Iz parseF):=SI
def Ir(F:List Str×Str->Option Str):Con I:=⟨112,⟨[.sl 9, .str],[]⟩,[],⟨[.str],[]⟩,0,F⟩
theorem gy:zm Tryz.prog (Ir ve):=lH
theorem Iw:zm Tryz.prog (Bp Qo):=
 okC (A:=⟨[],[],[],0,[],[(7,⟨[6],⟨[.bool],[]⟩,[0],[],[],0,[],⟨[],[]⟩,[]⟩)],[]⟩) (exS:=⟨[.int .u8],[]⟩) Tryz.f58 zK (by kernel_rfl) (by kernel_rfl) fun x=>by kernel_rfl
theorem NJ(Z6:List zg×Int->Option zD)(hs:zm Tryz.prog (Li Z6)):zm Tryz.prog (Li (jk Z6)):=
 okC (A:=⟨[Bp Qo,Li Z6],[],[],0,[(3,⟨[12],⟨[.int .i64],[(1, .row 111)]⟩,[1,4,5,10,11],[0],[1],0,[],⟨[],[(1, .row 111)]⟩,[1]⟩)],[(9,⟨[],⟨[],[(1, .row 111)]⟩,[7,8,12],[2],[1],0,[],⟨[],[]⟩,[]⟩),(12,⟨[12],⟨[.int .i64],[(1, .row 111)]⟩,[],[],[1],0,[],⟨[],[]⟩,[]⟩)],[]⟩) (exS:=⟨[.optr 0],[(0, .row 111)]⟩) Tryz.f85 (memC Iw (memC hs zK)) (by kernel_rfl) (by kernel_rfl) fun x=>by kernel_rfl
theorem FB:zm Tryz.prog (Li Z6):=
 zm.recE (I:=I) (P:=Tryz.prog) (f:=85) (inS:=⟨[.sl 59, .int .u8],[]⟩) (cst:=[]) (outS:=⟨[.val 111],[]⟩) (k:=0) (jk) (by kernel_rfl) (fun S h=>NJ S h)
theorem QK:zm Tryz.prog (QE ZA):=
 okC (A:=⟨[Li Z6],[],[],0,[],[],[]⟩) (exS:=⟨[.int .i64],[]⟩) Tryz.f50 (memC FB zK) (by kernel_rfl) (by kernel_rfl) fun x=>by kernel_rfl
theorem DK:zm Tryz.prog (NC Mk):=
 okC (A:=⟨[QE ZA,Li Z6],[],[],0,[],[],[]⟩) (exS:=⟨[.int .i64, .int .i64],[]⟩) Tryz.f82 (memC QK (memC FB zK)) (by kernel_rfl) (by kernel_rfl) fun x=>by kernel_rfl
theorem KL(Zw:List zg×List zk->Option (List zk))(hs:zm Tryz.prog (Al Zw)):zm Tryz.prog (Al (uk Zw)):=
 okC (A:=⟨[Bp Qo,Al Zw],[(4,[3]),(7,[6])],[],1,[(2,⟨[0,10],⟨[.own 1001, .int .i64],[(1001, .sl 57)]⟩,[4,8,9],[],[],0,[0],⟨[.own 1001],[(1001, .sl 57)]⟩,[1001]⟩)],[(8,⟨[0,10],⟨[.own 1103, .int .i64],[(1103, .sl 57)]⟩,[],[],[],0,[],⟨[],[]⟩,[]⟩)],[]⟩) (exS:=⟨[.own 1],[(1, .sl 57)]⟩) Tryz.f164 (memC Iw (memC hs zK)) (by kernel_rfl) (by kernel_rfl) fun x=>by kernel_rfl
theorem ML:zm Tryz.prog (Al Zw):=
 zm.recE (I:=I) (P:=Tryz.prog) (f:=164) (inS:=⟨[.own 0, .sl 59],[(0, .sl 57)]⟩) (cst:=[]) (outS:=⟨[.own 1],[(1, .sl 57)]⟩) (k:=1) (uk) (by kernel_rfl) (fun S h=>KL S h)
theorem YC:zm Tryz.prog (wC Q9):=
 okC (A:=⟨[Bp Qo,Al Zw],[(4,[3]),(7,[6])],[],0,[(2,⟨[0,10],⟨[.own 1105, .int .i64],[(1105, .sl 57)]⟩,[4,8,9],[],[],0,[0],⟨[.own 1105],[(1105, .sl 57)]⟩,[1105]⟩)],[(8,⟨[0,10],⟨[.own 1207, .int .i64],[(1207, .sl 57)]⟩,[],[],[],0,[],⟨[],[]⟩,[]⟩)],[]⟩) (exS:=⟨[.own 0],[(0, .sl 57)]⟩) Tryz.f164 (memC Iw (memC ML zK)) (by kernel_rfl) (by kernel_rfl) fun x=>by kernel_rfl
theorem wK:zm Tryz.prog (YD Q9):=uH ipOK (by kernel_rfl) YC
theorem VJ:zm Tryz.prog (SB Tj):=
 okC (A:=⟨[QE ZA,wC Q9],[],[],0,[],[],[]⟩) (exS:=⟨[.sl 57, .int .i64],[]⟩) Tryz.f122 (memC QK (memC YC zK)) (by kernel_rfl) (by kernel_rfl) fun x=>by kernel_rfl
theorem ZN:zm Tryz.prog (Zv strings_IndexByte):=
 okC (A:=⟨[LA Jj],[],[],0,[],[],[]⟩) (exS:=⟨[.int .i64],[]⟩) Tryz.f109 (memC xI zK) (by kernel_rfl) (by kernel_rfl) fun x=>by kernel_rfl
theorem iE:zm Tryz.prog (QG stringslite_HasPrefix):=
 okC (A:=⟨[],[],[],0,[],[],[]⟩) (exS:=⟨[.bool],[]⟩) Tryz.f173 zK (by kernel_rfl) (by kernel_rfl) fun x=>by kernel_rfl
theorem Ze:zm Tryz.prog (Zb strings_HasPrefix):=
 okC (A:=⟨[QG stringslite_HasPrefix],[],[],0,[],[],[]⟩) (exS:=⟨[.bool],[]⟩) Tryz.f130 (memC iE zK) (by kernel_rfl) (by kernel_rfl) fun x=>by kernel_rfl
theorem Nl:zm Tryz.prog (Si ZJ):=
 okC (A:=⟨[],[],[],0,[(3,⟨[10],⟨[.int .i64],[(0, .sl 5)]⟩,[2,3,8,9],[],[0],0,[],⟨[],[(0, .sl 5)]⟩,[0]⟩)],[(7,⟨[10],⟨[.int .i64],[(0, .sl 5)]⟩,[],[],[0],0,[],⟨[],[]⟩,[]⟩)],[]⟩) (exS:=⟨[.str],[]⟩) Tryz.f91 zK (by kernel_rfl) (by kernel_rfl) fun x=>by kernel_rfl
theorem JK:zm Tryz.prog (AC Ik):=
 okC (A:=⟨[Zv strings_IndexByte,Zb strings_HasPrefix,Si ZJ],[],[],0,[],[],[]⟩) (exS:=⟨[.bool],[]⟩) Tryz.f123 (memC ZN (memC Ze (memC Nl zK))) (by kernel_rfl) (by kernel_rfl) fun x=>by kernel_rfl
theorem RN:zm Tryz.prog (yE stringslite_TrimPrefix):=
 okC (A:=⟨[QG stringslite_HasPrefix],[],[],0,[],[],[]⟩) (exS:=⟨[.str],[]⟩) Tryz.f266 (memC iE zK) (by kernel_rfl) (by kernel_rfl) fun x=>by kernel_rfl
theorem YM:zm Tryz.prog (JE strings_TrimPrefix):=
 okC (A:=⟨[yE stringslite_TrimPrefix],[],[],0,[],[],[]⟩) (exS:=⟨[.str],[]⟩) Tryz.f236 (memC RN zK) (by kernel_rfl) (by kernel_rfl) fun x=>by kernel_rfl
theorem nk:zm Tryz.prog (Xi qx):=
 okC (A:=⟨[],[],[],0,[],[],[]⟩) (exS:=⟨[.bool],[]⟩) Tryz.f158 zK (by kernel_rfl) (by kernel_rfl) fun x=>by kernel_rfl
theorem ND:zm Tryz.prog (Gw Ui):=
 okC (A:=⟨[JE strings_TrimPrefix,Xi qx],[],[],0,[],[],[]⟩) (exS:=⟨[.bool],[]⟩) Tryz.f199 (memC YM (memC nk zK)) (by kernel_rfl) (by kernel_rfl) fun x=>by kernel_rfl
theorem iC:zm Tryz.prog (Pv Sk):=
 okC (A:=⟨[],[],[],0,[],[],[]⟩) (exS:=⟨[.bool],[]⟩) Tryz.f190 zK (by kernel_rfl) (by kernel_rfl) fun x=>by kernel_rfl
theorem Yv:zm Tryz.prog (Xo Uf):=
 okC (A:=⟨[Pv Sk,Xi qx],[],[],0,[],[],[]⟩) (exS:=⟨[.bool],[]⟩) Tryz.f157 (memC iC (memC nk zK)) (by kernel_rfl) (by kernel_rfl) fun x=>by kernel_rfl
theorem TM:zm Tryz.prog (wD strings_Contains):=
 okC (A:=⟨[Rs Og],[],[],0,[],[],[]⟩) (exS:=⟨[.bool],[]⟩) Tryz.f200 (memC kz zK) (by kernel_rfl) (by kernel_rfl) fun x=>by kernel_rfl
theorem XJ:zm Tryz.prog (UB bn):=
 okC (A:=⟨[Zv strings_IndexByte,Gw Ui,Zb strings_HasPrefix,Xo Uf,wD strings_Contains],[],[],0,[],[(8,⟨[3,4,5,6,7,25],⟨[.bool, .bool, .bool, .bool, .bool, .bool],[]⟩,[1,16],[],[],0,[],⟨[],[]⟩,[]⟩),(14,⟨[3,4,5,6,7,63],⟨[.bool, .bool, .bool, .bool, .bool, .bool],[]⟩,[],[],[],0,[],⟨[],[]⟩,[]⟩),(22,⟨[4,5,6,7,94],⟨[.bool, .bool, .bool, .bool, .bool],[]⟩,[3],[],[],0,[],⟨[],[]⟩,[]⟩),(24,⟨[3,4,5,6,7],⟨[.bool, .bool, .bool, .bool, .bool],[]⟩,[1],[0],[],0,[],⟨[],[]⟩,[]⟩)],[]⟩) (exS:=⟨[.bool],[]⟩) Tryz.f169 (memC ZN (memC ND (memC Ze (memC Yv (memC TM zK))))) (by kernel_rfl) (by kernel_rfl) fun x=>by kernel_rfl
theorem xK:zm Tryz.prog (aD QF):=
 okC (A:=⟨[],[],[],1,[],[],[]⟩) (exS:=⟨[.bool],[]⟩) Tryz.f201 zK (by kernel_rfl) (by kernel_rfl) fun x=>by kernel_rfl
theorem Ol:zm Tryz.prog (Ti ZW):=
 okC (A:=⟨[Si ZJ],[],[],0,[],[],[]⟩) (exS:=⟨[.bool],[]⟩) Tryz.f131 (memC Nl zK) (by kernel_rfl) (by kernel_rfl) fun x=>by kernel_rfl
theorem dB:zm Tryz.prog (vv og):=
 okC (A:=⟨[aD QF,Ti ZW],[],[],0,[],[(11,⟨[5],⟨[.int .i64],[]⟩,[3],[0],[],0,[],⟨[],[]⟩,[]⟩)],[]⟩) (exS:=⟨[.int .i64],[]⟩) Tryz.f170 (memC xK (memC Ol zK)) (by kernel_rfl) (by kernel_rfl) fun x=>by kernel_rfl
theorem fB:zm Tryz.prog (Bw pg):=
 okC (A:=⟨[UB bn,vv og],[],[],0,[(4,⟨[10],⟨[.int .i64],[]⟩,[0,8,9],[],[],0,[],⟨[],[]⟩,[]⟩)],[],[]⟩) (exS:=⟨[.int .i64],[]⟩) Tryz.f124 (memC XJ (memC dB zK)) (by kernel_rfl) (by kernel_rfl) fun x=>by kernel_rfl
theorem ng:zm Tryz.prog (Fg ZG):=
 okC (A:=⟨[],[],[],0,[],[],[]⟩) (exS:=⟨[.bool],[]⟩) Tryz.f128 zK (by kernel_rfl) (by kernel_rfl) fun x=>by kernel_rfl
theorem JM(zo:List zg->Option Bool)(h_decl_closers:zm Tryz.prog (qp zo)):zm Tryz.prog (jD (Ul zo)):=
 okC (A:=⟨[Fg ZG,qp zo],[],[],0,[],[],[]⟩) (exS:=⟨[.bool],[]⟩) Tryz.f171 (memC ng (memC h_decl_closers zK)) (by kernel_rfl) (by kernel_rfl) fun x=>by kernel_rfl
theorem SN(zo:List zg->Option Bool)(h_decl_closers:zm Tryz.prog (qp zo)):zm Tryz.prog (BF (ZR zo)):=
 okC (A:=⟨[jD (Ul zo)],[],[],0,[(2,⟨[8],⟨[.int .i64],[]⟩,[0,1,7],[],[],0,[],⟨[],[]⟩,[]⟩)],[],[]⟩) (exS:=⟨[.int .i64],[]⟩) Tryz.f172 (memC (JM zo h_decl_closers) zK) (by kernel_rfl) (by kernel_rfl) fun x=>by kernel_rfl
theorem gN(zo:List zg->Option Bool)(h_decl_closers:zm Tryz.prog (qp zo)):zm Tryz.prog (Q4 (Zq zo)):=
 okC (A:=⟨[BF (ZR zo)],[],[],0,[],[],[]⟩) (exS:=⟨[.bool],[]⟩) Tryz.f126 (memC (SN zo h_decl_closers) zK) (by kernel_rfl) (by kernel_rfl) fun x=>by kernel_rfl
theorem tK(zo:List zg->Option Bool)(hs:zm Tryz.prog (qp zo)):zm Tryz.prog (qp (Sl zo)):=
 okC (A:=⟨[Q4 (Zq zo)],[],[],0,[],[],[]⟩) (exS:=⟨[.bool],[]⟩) Tryz.f125 (memC (gN zo hs) zK) (by kernel_rfl) (by kernel_rfl) fun x=>by kernel_rfl
theorem yK:zm Tryz.prog (qp zo):=
 zm.recE (I:=I) (P:=Tryz.prog) (f:=125) (inS:=⟨[.sl 59],[]⟩) (cst:=[]) (outS:=⟨[.bool],[]⟩) (k:=0) (Sl) (by kernel_rfl) (fun S h=>tK S h)
theorem LB:zm Tryz.prog (Wu Ai):=
 okC (A:=⟨[Fg ZG],[],[],0,[],[],[]⟩) (exS:=⟨[.bool],[]⟩) Tryz.f129 (memC ng zK) (by kernel_rfl) (by kernel_rfl) fun x=>by kernel_rfl
theorem AL:zm Tryz.prog (bD Po):=
 okC (A:=⟨[Fg ZG,Wu Ai],[],[],0,[],[],[]⟩) (exS:=⟨[.bool],[]⟩) Tryz.f127 (memC ng (memC LB zK)) (by kernel_rfl) (by kernel_rfl) fun x=>by kernel_rfl
theorem oN:zm Tryz.prog (rE ZC):=
 okC (A:=⟨[bD Po],[],[],0,[(2,⟨[8],⟨[.int .i64],[]⟩,[0,1,7],[],[],0,[],⟨[],[]⟩,[]⟩)],[],[]⟩) (exS:=⟨[.int .i64],[]⟩) Tryz.f172 (memC AL zK) (by kernel_rfl) (by kernel_rfl) fun x=>by kernel_rfl
theorem tN:zm Tryz.prog (QP Zi):=
 okC (A:=⟨[rE ZC],[],[],0,[],[],[]⟩) (exS:=⟨[.bool],[]⟩) Tryz.f126 (memC oN zK) (by kernel_rfl) (by kernel_rfl) fun x=>by kernel_rfl
theorem av:zm Tryz.prog (Yo Vf):=
 okC (A:=⟨[SB Tj,AC Ik,Bw pg,qp zo,QP Zi,Zb strings_HasPrefix,Fg ZG],[],[],0,[],[],[]⟩) (exS:=⟨[.int .i64],[]⟩) Tryz.f83 (memC VJ (memC JK (memC fB (memC yK (memC tN (memC Ze (memC ng zK))))))) (by kernel_rfl) (by kernel_rfl) fun x=>by kernel_rfl
theorem Ko:zm Tryz.prog (ek Z4):=
 okC (A:=⟨[],[],[],0,[],[],[]⟩) (exS:=⟨[.bool],[]⟩) Tryz.f47 zK (by kernel_rfl) (by kernel_rfl) fun x=>by kernel_rfl
theorem MB:zm Tryz.prog (Xu kg):=
 okC (A:=⟨[],[],[],0,[],[],[]⟩) (exS:=⟨[.bool],[]⟩) Tryz.f71 zK (by kernel_rfl) (by kernel_rfl) fun x=>by kernel_rfl
theorem OJ(qD:zh×Int->Option ((Int×Bool)×Int))(hs:zm Tryz.prog (ak qD)):zm Tryz.prog (ak (Xk qD)):=
 okC (A:=⟨[NC Mk,Yo Vf,ek Z4,ak qD,Xu kg],[],[],1,[(19,⟨[9,97],⟨[.int .i64, .int .i64],[(0, .row 3)]⟩,[1,95,96],[],[0],1,[9],⟨[.int .i64],[(0, .row 3)]⟩,[0]⟩)],[(15,⟨[69],⟨[.bool],[]⟩,[1,2,6],[0,1],[],0,[],⟨[],[]⟩,[]⟩),(26,⟨[9,12],⟨[.int .i64, .int .i64],[]⟩,[97],[0],[],0,[],⟨[],[]⟩,[]⟩)],[]⟩) (exS:=⟨[.int .i64, .bool],[(0, .row 3)]⟩) Tryz.f48 (memC DK (memC av (memC Ko (memC hs (memC MB zK))))) (by kernel_rfl) (by kernel_rfl) fun x=>by kernel_rfl
theorem TK:zm Tryz.prog (ak qD):=
 zm.recE (I:=I) (P:=Tryz.prog) (f:=48) (inS:=⟨[.val 27, .optr 0],[(0, .row 3)]⟩) (cst:=[]) (outS:=⟨[.int .i64, .bool],[(0, .row 3)]⟩) (k:=0) (Xk) (by kernel_rfl) (fun S h=>OJ S h)
theorem Qi:zm Tryz.prog (qj zW):=
 okC (A:=⟨[ak qD],[],[],0,[],[],[]⟩) (exS:=⟨[.int .i64],[]⟩) Tryz.f18 (memC TK zK) (by kernel_rfl) (by kernel_rfl) fun x=>by kernel_rfl
theorem NL:zm Tryz.prog (xC Oi):=
 okC (A:=⟨[],[],[],1,[],[],[]⟩) (exS:=⟨[.bool],[]⟩) Tryz.f106 zK (by kernel_rfl) (by kernel_rfl) fun x=>by kernel_rfl
theorem bM:zm Tryz.prog (ME QY):=
 okC (A:=⟨[],[],[],0,[],[],[]⟩) (exS:=⟨[.own 0],[(0, .sl 59)]⟩) Tryz.f133 zK (by kernel_rfl) (by kernel_rfl) fun x=>by kernel_rfl
theorem MJ(ZQ:List zg->Option (List zg))(hs:zm Tryz.prog (Ki ZQ)):zm Tryz.prog (Ki (ik ZQ)):=
 okC (A:=⟨[ME QY,Ki ZQ],[],[],0,[(3,⟨[8],⟨[.int .i64],[(0, .sl 59)]⟩,[0,2,7],[],[0],0,[],⟨[],[(0, .sl 59)]⟩,[0]⟩)],[],[]⟩) (exS:=⟨[.sl 59],[]⟩) Tryz.f88 (memC bM (memC hs zK)) (by kernel_rfl) (by kernel_rfl) fun x=>by kernel_rfl
theorem EB:zm Tryz.prog (Ki ZQ):=
 zm.recE (I:=I) (P:=Tryz.prog) (f:=88) (inS:=⟨[.sl 59],[]⟩) (cst:=[]) (outS:=⟨[.sl 59],[]⟩) (k:=0) (ik) (by kernel_rfl) (fun S h=>MJ S h)
theorem IB:zm Tryz.prog (Uu ag):=
 okC (A:=⟨[QE ZA,xC Oi,Ki ZQ],[],[],0,[(6,⟨[6],⟨[.int .i64],[]⟩,[1,2,3,5,7],[0],[],0,[6],⟨[.int .i64],[]⟩,[]⟩),(8,⟨[7],⟨[.int .i64],[]⟩,[1,2,3,5,6],[0],[],2,[7],⟨[.int .i64],[]⟩,[]⟩)],[],[]⟩) (exS:=⟨[.sl 59, .int .i64],[]⟩) Tryz.f62 (memC QK (memC NL (memC EB zK))) (by kernel_rfl) (by kernel_rfl) fun x=>by kernel_rfl
theorem xJ(Zk:zh->Option (List zF))(hs:zm Tryz.prog (Q0 Zk)):zm Tryz.prog (Q0 (Hl Zk)):=
 okC (A:=⟨[Uu ag,Q0 Zk],[(4,[1])],[],0,[(7,⟨[4,24],⟨[.own 1208, .int .i64],[(1208, .sl 24)]⟩,[2,22,23],[],[],0,[4],⟨[.own 1208],[(1208, .sl 24)]⟩,[1208]⟩)],[],[]⟩) (exS:=⟨[.sl 24],[]⟩) Tryz.f33 (memC IB (memC hs zK)) (by kernel_rfl) (by kernel_rfl) fun x=>by kernel_rfl
theorem bv:zm Tryz.prog (Q0 Zk):=
 zm.recE (I:=I) (P:=Tryz.prog) (f:=33) (inS:=⟨[.val 27],[]⟩) (cst:=[]) (outS:=⟨[.sl 24],[]⟩) (k:=0) (Hl) (by kernel_rfl) (fun S h=>xJ S h)
theorem jB:zm Tryz.prog (Wv mg):=
 okC (A:=⟨[qj zW,Q0 Zk],[],[],0,[],[],[]⟩) (exS:=⟨[.sl 24, .int .i64],[]⟩) Tryz.f10 (memC Qi (memC bv zK)) (by kernel_rfl) (by kernel_rfl) fun x=>by kernel_rfl
theorem BN:zm Tryz.prog (mE slices_Index_string):=
 okC (A:=⟨[],[],[],0,[(2,⟨[8],⟨[.int .i64],[]⟩,[0,1,7],[],[],0,[],⟨[],[]⟩,[]⟩)],[],[]⟩) (exS:=⟨[.int .i64],[]⟩) Tryz.f175 zK (by kernel_rfl) (by kernel_rfl) fun x=>by kernel_rfl
theorem TN:zm Tryz.prog (CF slices_Contains_string):=
 okC (A:=⟨[mE slices_Index_string],[],[],0,[],[],[]⟩) (exS:=⟨[.bool],[]⟩) Tryz.f134 (memC BN zK) (by kernel_rfl) (by kernel_rfl) fun x=>by kernel_rfl
theorem lC:zm Tryz.prog (Tv Bh):=
 okC (A:=⟨[CF slices_Contains_string,Si ZJ,Zv strings_IndexByte],[(1,[0])],[],0,[],[],[]⟩) (exS:=⟨[.bool],[]⟩) Tryz.f92 (memC TN (memC Nl (memC ZN zK))) (by kernel_rfl) (by kernel_rfl) fun x=>by kernel_rfl
theorem jC:zm Tryz.prog (Rv yg):=
 okC (A:=⟨[],[],[],0,[(2,⟨[7],⟨[.int .i64],[]⟩,[5,6],[],[],0,[],⟨[],[]⟩,[]⟩)],[],[]⟩) (exS:=⟨[.int .i64],[]⟩) Tryz.f113 zK (by kernel_rfl) (by kernel_rfl) fun x=>by kernel_rfl
theorem kC:zm Tryz.prog (Sv Ah):=
 okC (A:=⟨[Rv yg],[(1,[1])],[],0,[],[],[]⟩) (exS:=⟨[.int .i64],[]⟩) Tryz.f121 (memC jC zK) (by kernel_rfl) (by kernel_rfl) fun x=>by kernel_rfl
theorem nK:zm Tryz.prog (BC Ii):=
 okC (A:=⟨[ek Z4,Tv Bh,Sv Ah],[],[],0,[(4,⟨[23],⟨[.int .i64],[]⟩,[21,22],[],[],0,[],⟨[],[]⟩,[]⟩)],[(17,⟨[57],⟨[.bool],[]⟩,[4,23],[1],[],0,[],⟨[],[]⟩,[]⟩),(19,⟨[23],⟨[.int .i64],[]⟩,[],[],[],0,[],⟨[],[]⟩,[]⟩)],[]⟩) (exS:=⟨[.bool],[]⟩) Tryz.f80 (memC Ko (memC lC (memC kC zK))) (by kernel_rfl) (by kernel_rfl) fun x=>by kernel_rfl
theorem oK:zm Tryz.prog (DC Ao):=
 okC (A:=⟨[],[],[],0,[],[],[]⟩) (exS:=⟨[.bool],[]⟩) Tryz.f81 zK (by kernel_rfl) (by kernel_rfl) fun x=>by kernel_rfl
theorem VK:zm Tryz.prog (YB yj):=
 okC (A:=⟨[ek Z4,BC Ii,DC Ao],[],[],0,[],[],[]⟩) (exS:=⟨[.bool],[]⟩) Tryz.f46 (memC Ko (memC nK (memC oK zK))) (by kernel_rfl) (by kernel_rfl) fun x=>by kernel_rfl
theorem mM:zm Tryz.prog (EE Qw):=
 okC (A:=⟨[YB yj],[],[],0,[],[],[]⟩) (exS:=⟨[.bool],[]⟩) Tryz.f45 (memC VK zK) (by kernel_rfl) (by kernel_rfl) fun x=>by kernel_rfl
theorem aN:zm Tryz.prog (fE Z7):=
 okC (A:=⟨[EE Qw],[],[],0,[(2,⟨[8],⟨[.int .i64],[]⟩,[0,1,7],[],[],0,[],⟨[],[]⟩,[]⟩)],[],[]⟩) (exS:=⟨[.int .i64],[]⟩) Tryz.f79 (memC mM zK) (by kernel_rfl) (by kernel_rfl) fun x=>by kernel_rfl
theorem sN:zm Tryz.prog (uE ZB):=
 okC (A:=⟨[fE Z7],[],[],0,[],[],[]⟩) (exS:=⟨[.bool],[]⟩) Tryz.f44 (memC aN zK) (by kernel_rfl) (by kernel_rfl) fun x=>by kernel_rfl
theorem oD:zm Tryz.prog (Sw qC):=
 okC (A:=⟨[uE ZB,ek Z4],[],[],0,[],[],[]⟩) (exS:=⟨[.int .i64],[]⟩) Tryz.f16 (memC sN (memC Ko zK)) (by kernel_rfl) (by kernel_rfl) fun x=>by kernel_rfl
theorem jv:zm Tryz.prog (jo Xf):=
 okC (A:=⟨[Sw qC,qj zW],[],[],0,[],[],[]⟩) (exS:=⟨[.int .i64],[]⟩) Tryz.f36 (memC oD (memC Qi zK)) (by kernel_rfl) (by kernel_rfl) fun x=>by kernel_rfl
theorem DL:zm Tryz.prog (eD Vo):=
 okC (A:=⟨[],[],[],2,[],[],[]⟩) (exS:=⟨[.bool],[(0, .row 3)]⟩) Tryz.f38 zK (by kernel_rfl) (by kernel_rfl) fun x=>by kernel_rfl
theorem wJ(ZT:(zh×Int)×Int×List Bool->Option (Bool×Int))(hs:zm Tryz.prog (Jl ZT)):zm Tryz.prog (Jl (Gl ZT)):=
 okC (A:=⟨[eD Vo,Jl ZT],[],[],2,[(14,⟨[7,8,45],⟨[.bool, .bool, .int .i64],[(0, .row 3)]⟩,[1,2,3,6,43,44],[2],[0],1,[7,8],⟨[.bool, .bool],[(0, .row 3)]⟩,[0]⟩)],[],[]⟩) (exS:=⟨[.bool],[(0, .row 3)]⟩) Tryz.f37 (memC DL (memC hs zK)) (by kernel_rfl) (by kernel_rfl) fun x=>by kernel_rfl
theorem sK:zm Tryz.prog (Jl ZT):=
 zm.recE (I:=I) (P:=Tryz.prog) (f:=37) (inS:=⟨[.val 27, .int .i64, .clo 38 [0,1]],[(0, .row 3),(1, .row 30)]⟩) (cst:=[1]) (outS:=⟨[.bool],[(0, .row 3)]⟩) (k:=0) (Gl) (by kernel_rfl) (fun S h=>wJ S h)
theorem iB:zm Tryz.prog (Vv qU):=
 okC (A:=⟨[jo Xf,Q0 Zk,Jl ZT],[],[],0,[],[],[]⟩) (exS:=⟨[.bool, .int .i64],[]⟩) Tryz.f12 (memC jv (memC bv (memC sK zK))) (by kernel_rfl) (by kernel_rfl) fun x=>by kernel_rfl
theorem eB:zm Tryz.prog (Aw ZV):=
 okC (A:=⟨[Zb strings_HasPrefix],[],[],0,[],[],[]⟩) (exS:=⟨[.int .i64],[]⟩) Tryz.f111 (memC Ze zK) (by kernel_rfl) (by kernel_rfl) fun x=>by kernel_rfl
theorem Tw:zm Tryz.prog (Gp Zf):=
 okC (A:=⟨[Xi qx,Pv Sk,bA Kn],[(2,[2]),(3,[1]),(5,[1])],[],1,[],[],[]⟩) (exS:=⟨[.own 1],[(1, .sl 5)]⟩) Tryz.f159 (memC nk (memC iC (memC dJ zK))) (by kernel_rfl) (by kernel_rfl) fun x=>by kernel_rfl
theorem UL:zm Tryz.prog (ED Rk):=
 okC (A:=⟨[Xo Uf,Xi qx,Gp Zf],[(6,[2])],[],0,[(2,⟨[0,11],⟨[.own 1314, .int .i64],[(1314, .sl 5)]⟩,[1,2,6,10],[],[],0,[0],⟨[.own 1314],[(1314, .sl 5)]⟩,[1314]⟩)],[(8,⟨[0,11],⟨[.own 1416, .int .i64],[(1416, .sl 5)]⟩,[],[],[],0,[],⟨[],[]⟩,[]⟩)],[]⟩) (exS:=⟨[.own 0],[(0, .sl 5)]⟩) Tryz.f110 (memC Yv (memC nk (memC Tw zK))) (by kernel_rfl) (by kernel_rfl) fun x=>by kernel_rfl
theorem JB:zm Tryz.prog (Vu ig):=
 okC (A:=⟨[Zv strings_IndexByte,Aw ZV,ED Rk],[],[],0,[],[],[]⟩) (exS:=⟨[.str, .int .i64],[]⟩) Tryz.f67 (memC ZN (memC eB (memC UL zK))) (by kernel_rfl) (by kernel_rfl) fun x=>by kernel_rfl
theorem uL:zm Tryz.prog (fD ZZ):=
 okC (A:=⟨[],[],[],2,[],[],[]⟩) (exS:=⟨[],[(0, .row 3),(1, .sl 5)]⟩) Tryz.f114 zK (by kernel_rfl) (by kernel_rfl) fun x=>by kernel_rfl
theorem WL:zm Tryz.prog (FD Tk):=
 okC (A:=⟨[Rv yg,fD ZZ],[(1,[1]),(7,[200000])],[],0,[(12,⟨[9,26],⟨[.int .i64, .int .i64],[(1, .sl 5),(2, .row 3)]⟩,[0,6,7,8],[],[1,2],0,[],⟨[],[(1, .sl 5),(2, .row 3)]⟩,[1,2]⟩),(23,⟨[0],⟨[.int .i64],[(1, .sl 5),(2, .row 3)]⟩,[6,7,8],[],[1,2],2,[],⟨[],[(1, .sl 5),(2, .row 3)]⟩,[1,2]⟩)],[(7,⟨[0],⟨[.int .i64],[]⟩,[5],[],[],0,[],⟨[],[]⟩,[]⟩),(17,⟨[9],⟨[.int .i64],[(1, .sl 5),(2, .row 3)]⟩,[10,26],[],[1,2],0,[],⟨[],[]⟩,[]⟩),(20,⟨[9,26],⟨[.int .i64, .int .i64],[(1, .sl 5),(2, .row 3)]⟩,[],[],[1,2],0,[],⟨[],[]⟩,[]⟩),(27,⟨[],⟨[],[(1, .sl 5),(2, .row 3)]⟩,[6,7],[],[1,2],0,[],⟨[],[]⟩,[]⟩)],[]⟩) (exS:=⟨[.str, .int .i64],[]⟩) Tryz.f69 (memC jC (memC uL zK)) (by kernel_rfl) (by kernel_rfl) fun x=>by kernel_rfl
end Go.Lv.VT
end
