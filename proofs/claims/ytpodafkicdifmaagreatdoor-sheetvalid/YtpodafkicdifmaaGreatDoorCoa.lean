/- Contracts. -/
import Derived.Test.YtpodafkicdifmaaGreatDoorTx
import Derived.Test.YtpodafkicdifmaaGreatDoorIp
import Derived.Test.YtpodafkicdifmaaGreatDoorLf
import Derived.Test.YtpodafkicdifmaaGreatDoorPa
import Derived.Test.YtpodafkicdifmaaGreatDoorGa
noncomputable section
set_option linter.unusedSimpArgs false
set_option linter.unusedVariables false
namespace Go.Lv.VT
set_option maxRecDepth 100000
open Go.Proofs
theorem alt2 {T U V W:Type} {A B:T->Option U} {t:Option V} {c:V->Bool} {p:V->Option W} {d:W->Bool} {x:T} {y:U}
  (h:(za t fun v=>bif c v then za (A x) fun z=>some z else za (p v) fun w=>bif d w then za (A x) fun z=>some z else za (B x) fun z=>some z)=some y): ∃n:Bool,(cond n A B) x=some y:=by
 have key: ∀o:Option U,za o (fun z=>some z)=some y->o=some y:=fun o=>by cases o<;>exact id
 cases t with
 |none=>cases h
 |some v=>
  replace h:(bif c v then za (A x) fun z=>some z else za (p v) fun w=>bif d w then za (A x) fun z=>some z else za (B x) fun z=>some z)=some y:=h;cases hc:c v<;>rw[hc]at h
  ·replace h:(za (p v) fun w=>bif d w then za (A x) fun z=>some z else za (B x) fun z=>some z)=some y:=h;cases hp:p v with
   |none=>rw[hp]at h;cases h
   |some w=>
    rw[hp]at h;replace h:(bif d w then za (A x) fun z=>some z else za (B x) fun z=>some z)=some y:=h;cases hd:d w<;>rw[hd]at h
    ·exact⟨false,key _ h⟩
    ·exact⟨true,key _ h⟩
  ·exact⟨true,key _ h⟩
def K0(f:Nat)(i o:List Sh)(F:((⟨i,[]⟩:StSh).sl I).T->Option ((⟨o,[]⟩:StSh).sl I).T):Con I:=⟨f,⟨i,[]⟩,[],⟨o,[]⟩,0,F⟩
abbrev CO(c:Con I):Prop:=ZR Tryz.prog c
def zlN:=K0 59 [.str, .int .u8] [.int .i64]
def zqM:=K0 58 [.str] [.bool]
def zfm:=K0 103 [.sl 9, .clo 58 []] [.int .i64]
def zef:=K0 57 [.sl 9, .clo 58 []] [.bool]
def zvK:=K0 28 [.sl 9] [.bool]
def ztc:=K0 27 [.sl 9] [.bool]
def zgQ:=K0 56 [.sl 51, .clo 27 []] [.int .i64]
def zeP:=K0 26 [.sl 51, .clo 27 []] [.bool]
def UG:=K0 29 [.sl 113] [.int .i64]
def zs9:=K0 203 [.str, .int .i64] [.bool]
def zqI:=K0 199 [.str] [.bool]
def zu7:=K0 53 [.str] [.str]
def zqL:=K0 157 [.str] [.bool]
def zqH:=K0 200 [.val 120] [.bool, .bool]
def zmI:=K0 201 [.val 124, .int .u8] [.val 124, .bool]
def l5:=K0 238 [.int .i64] [.bool]
def lZ:=K0 204 [.val 118] [.int .i64]
def zmJ(F:zm×zg×zI->Option Bool):Con I:=⟨202,⟨[.val 113, .optr 0, .optr 1],[(0, .row 124),(1, .row 120)]⟩,[0,1],⟨[.bool],[]⟩,0,F⟩
def zeQ(F:List zm×zg×zI->Option Int):Con I:=⟨105,⟨[.sl 113, .clo 202 [0,1]],[(0, .row 124),(1, .row 120)]⟩,[0,1],⟨[.int .i64],[]⟩,0,F⟩
def zdx(F:List zm×zg×zI->Option Bool):Con I:=⟨60,⟨[.sl 113, .clo 202 [0,1]],[(0, .row 124),(1, .row 120)]⟩,[0,1],⟨[.bool],[]⟩,0,F⟩
def zpD:=K0 158 [.val 120, .val 124] [.bool]
def zmG:=K0 108 [.val 116, .val 124] [.bool]
def zn9(F:zO×zg->Option Bool):Con I:=⟨107,⟨[.val 116, .optr 0],[(0, .row 124)]⟩,[0],⟨[.bool],[]⟩,0,F⟩
def zfl(F:List zO×zg->Option Int):Con I:=⟨156,⟨[.sl 116, .clo 107 [0]],[(0, .row 124)]⟩,[0],⟨[.int .i64],[]⟩,0,F⟩
def zee(F:List zO×zg->Option Bool):Con I:=⟨106,⟨[.sl 116, .clo 107 [0]],[(0, .row 124)]⟩,[0],⟨[.bool],[]⟩,0,F⟩
def ZU:=K0 62 [.val 113, .val 124, .bool] [.bool]
def zn8:=K0 61 [.val 113] [.bool]
def zf9:=K0 105 [.sl 113, .clo 61 []] [.int .i64]
def zeA:=K0 60 [.sl 113, .clo 61 []] [.bool]
def YG:=K0 63 [.sl 113] [.int .i64]
def zqG:=K0 30 [.sl 113] [.int .i64]
def zvI:=K0 31 [.val 42] [.bool]
def O9:=K0 46 [.int .u8] [.int .u8]
def PE:=K0 65 [.sl 74, .int .u8] [.val 128]
def O6:=K0 64 [.sl 74] [.int .i64]
def M6:=K0 32 [.sl 74] [.int .i64, .int .i64]
def YF(F:List zb×List zf->Option (List zf)):Con I:=⟨109,⟨[.own 0, .sl 74],[(0, .sl 72)]⟩,[],⟨[.own 1],[(1, .sl 72)]⟩,1,F⟩
def N9(F:List zb->Option (List zf)):Con I:=⟨109,⟨[.nilv, .sl 74],[]⟩,[],⟨[.own 0],[(0, .sl 72)]⟩,1,F⟩
def uZ:=K0 66 [.sl 74] [.sl 72, .int .i64]
def zh0:=K0 113 [.str, .str] [.bool]
def zlM:=K0 74 [.str, .str] [.bool]
def R5:=K0 67 [.str] [.bool]
def zhg:=K0 239 [.str, .str] [.str]
def zkJ:=K0 205 [.str, .str] [.str]
def M5:=K0 206 [.int .u8] [.bool]
def zsL:=K0 159 [.str] [.bool]
def zu5:=K0 207 [.int .u8] [.bool]
def R6:=K0 160 [.int .u8] [.bool]
def zmK:=K0 161 [.str, .str] [.bool]
def wZ:=K0 110 [.val 72] [.bool]
def zsM(F:(Int×Int)×List zf->Option Bool):Con I:=⟨162,⟨[.int .i64, .int .u8, .optr 0],[(0, .row 62)]⟩,[0],⟨[.bool],[]⟩,0,F⟩
def zu6:=K0 163 [.str, .str] [.bool]
def P6:=K0 111 [.sl 72] [.int .i64]
def O5:=K0 68 [.sl 72] [.int .i64]
def zD9:=K0 72 [.val 74, .int .u8] [.bool]
def zpA:=K0 112 [.val 74] [.bool]
def zhf:=K0 96 [.sl 74, .clo 112 []] [.int .i64]
def zfk:=K0 70 [.sl 74, .clo 112 []] [.bool]
def Sr:=K0 69 [.sl 74] [.bool]
def yZ:=K0 73 [.val 74] [.bool]
def zsK:=K0 71 [.val 74] [.bool]
def zga:=K0 96 [.sl 74, .clo 71 []] [.int .i64]
def zeB:=K0 70 [.sl 74, .clo 71 []] [.bool]
def U5:=K0 33 [.val 39] [.int .i64]
def XF:=K0 34 [.val 42] [.int .i64]
def O0:=K0 78 [.val 42] [.bool]
def zjq:=K0 240 [.sl 9, .str] [.int .i64]
def zhe:=K0 208 [.sl 9, .str] [.bool]
def zu1:=K0 164 [.str] [.bool]
def zu4:=K0 209 [.sl 2] [.int .i64]
def zu3:=K0 165 [.int .i64] [.int .i64]
def V5:=K0 115 [.val 42] [.bool]
def X5:=K0 116 [.val 42] [.bool]
def kZ:=K0 77 [.val 42] [.bool]
def zlD:=K0 76 [.val 42] [.bool]
def zhY:=K0 114 [.sl 42, .clo 76 []] [.int .i64]
def zf8:=K0 75 [.sl 42, .clo 76 []] [.bool]
def zn5:=K0 35 [.val 42] [.int .i64]
def dE:=K0 36 [.val 42] [.int .i64]
def M0:=K0 117 [.val 42] [.bool]
def SE(F:zw×Int->Option ((Int×Bool)×Int)):Con I:=⟨79,⟨[.val 42, .optr 0],[(0, .row 3)]⟩,[],⟨[.int .i64, .bool],[(0, .row 3)]⟩,0,F⟩
def zkG:=K0 37 [.val 42] [.int .i64]
def fE:=K0 16 [.sl 45] [.val 56]
def zvH:=K0 17 [.sl 45] [.int .i64]
def zvF:=K0 7 [.val 25] [.int .i64]
def zhh(F:ze->Option ze):Con I:=⟨92,⟨[.optr 0],[(0, .row 163)]⟩,[],⟨[],[(0, .row 163)]⟩,0,F⟩
def zkM(F:Int×ze->Option Int):Con I:=⟨133,⟨[.optr 0, .int .i64],[(0, .row 163)]⟩,[0],⟨[.int .i64],[]⟩,0,F⟩
def X9:=K0 134 [.int .i64] [.bool]
def zjs(F:ze->Option ze):Con I:=⟨135,⟨[.optr 0, .clo 134 []],[(0, .row 163)]⟩,[],⟨[],[(0, .row 163)]⟩,0,F⟩
def zfo(F:Int->Option (List UInt8)):Con I:=⟨256,⟨[.nilv, .int .i32],[]⟩,[],⟨[.own 0],[(0, .sl 5)]⟩,1,F⟩
def zlR(F:Int->Option (List UInt8)):Con I:=⟨226,⟨[.nilv, .int .i32],[]⟩,[],⟨[.own 0],[(0, .sl 5)]⟩,1,F⟩
def zti:=K0 228 [.int .i64, .int .i64, .int .i64] [.bool]
def d9:=K0 185 [.int .i64] [.bool]
def zAf:=K0 227 [.int .i64] [.int .i64]
def zgR(F:ze->Option (ze×List UInt8)):Con I:=⟨183,⟨[.optr 0, .nilv],[(0, .row 163)]⟩,[],⟨[.own 1],[(0, .row 163),(1, .sl 5)]⟩,1,F⟩
def zfp(F:Int×List UInt8->Option (List UInt8)):Con I:=⟨256,⟨[.own 0, .int .i32],[(0, .sl 5)]⟩,[],⟨[.own 1],[(1, .sl 5)]⟩,1,F⟩
def zlS(F:Int×List UInt8->Option (List UInt8)):Con I:=⟨226,⟨[.own 0, .int .i32],[(0, .sl 5)]⟩,[],⟨[.own 1],[(1, .sl 5)]⟩,1,F⟩
def zgS(F:ze×List UInt8->Option (ze×List UInt8)):Con I:=⟨183,⟨[.optr 0, .own 1],[(0, .row 163),(1, .sl 5)]⟩,[],⟨[.own 2],[(0, .row 163),(2, .sl 5)]⟩,1,F⟩
def zi4(F:ze->Option (zf×ze)):Con I:=⟨136,⟨[.optr 0],[(0, .row 163)]⟩,[],⟨[.val 72],[(0, .row 163)]⟩,0,F⟩
def Y9:=K0 184 [.int .i64] [.bool]
def ztf:=K0 137 [.int .i64] [.bool]
def zi2(F:Int×ze->Option Bool):Con I:=⟨138,⟨[.optr 0, .int .i64],[(0, .row 163)]⟩,[0],⟨[.bool],[]⟩,0,F⟩
def zkK(F:Int×ze->Option Bool):Con I:=⟨139,⟨[.optr 0, .int .i64],[(0, .row 163)]⟩,[0],⟨[.bool],[]⟩,0,F⟩
def zkN(F:ze->Option (Str×ze)):Con I:=⟨140,⟨[.optr 0],[(0, .row 163)]⟩,[],⟨[.str],[(0, .row 163)]⟩,0,F⟩
def zi3(F:ze->Option Bool):Con I:=⟨141,⟨[.optr 0],[(0, .row 163)]⟩,[0],⟨[.bool],[]⟩,0,F⟩
def zh3(F:ze->Option ze):Con I:=⟨135,⟨[.optr 0, .clo 185 []],[(0, .row 163)]⟩,[],⟨[],[(0, .row 163)]⟩,0,F⟩
def zh1(F:ze->Option (Bool×ze)):Con I:=⟨186,⟨[.optr 0],[(0, .row 163)]⟩,[],⟨[.bool],[(0, .row 163)]⟩,0,F⟩
def zlQ:=K0 187 [.str] [.int .i64]
def zh2(F:ze->Option (zf×ze)):Con I:=⟨142,⟨[.optr 0],[(0, .row 163)]⟩,[],⟨[.val 72],[(0, .row 163)]⟩,0,F⟩
def zlO(F:ze->Option (zf×ze)):Con I:=⟨232,⟨[.optr 0],[(0, .row 163)]⟩,[],⟨[.val 72],[(0, .row 163)]⟩,0,F⟩
def zlP(F:ze->Option (zf×ze)):Con I:=⟨188,⟨[.optr 0],[(0, .row 163)]⟩,[],⟨[.val 72],[(0, .row 163)]⟩,0,F⟩
def zjr(F:ze->Option (zf×ze)):Con I:=⟨143,⟨[.optr 0],[(0, .row 163)]⟩,[],⟨[.val 72],[(0, .row 163)]⟩,0,F⟩
def zkL(F:ze->Option (zf×ze)):Con I:=⟨93,⟨[.optr 0],[(0, .row 163)]⟩,[],⟨[.val 72],[(0, .row 163)]⟩,0,F⟩
def zmL(F:(zf×Int×Int)×List zf->Option (List zf)):Con I:=⟨43,⟨[.val 72, .int .i64, .int .i64, .optr 0],[(0, .cells 62 [.own 1]),(1, .sl 72)]⟩,[],⟨[],[(0, .cells 62 [.own 2]),(2, .sl 72)]⟩,1,F⟩
def ztg(F:Str->Option (Int×List zf)):Con I:=⟨42,⟨[.str, .clo 43 [0]],[(0, .cells 62 [.nilv])]⟩,[],⟨[.int .i64],[(0, .cells 62 [.own 1]),(1, .sl 72)]⟩,1,F⟩
def zte:=K0 20 [.str] [.sl 72, .int .i64]
def Y1:=K0 52 [.sl 74] [.int .u8]
def zkI(F:Int×List UInt8->Option Int):Con I:=⟨146,⟨[.own 0, .int .u8],[(0, .sl 5)]⟩,[0],⟨[.int .i64],[]⟩,0,F⟩
def zhX(F:Int×List UInt8->Option Bool):Con I:=⟨98,⟨[.own 0, .int .u8],[(0, .sl 5)]⟩,[0],⟨[.bool],[]⟩,0,F⟩
def zqO(F:zb×List UInt8->Option Bool):Con I:=⟨97,⟨[.val 74, .optr 0],[(0, .cells 77 [.own 1]),(1, .sl 5)]⟩,[0,1],⟨[.bool],[]⟩,0,F⟩
def zgb(F:List zb×List UInt8->Option Int):Con I:=⟨96,⟨[.sl 74, .clo 97 [0]],[(0, .cells 77 [.own 1]),(1, .sl 5)]⟩,[0,1],⟨[.int .i64],[]⟩,0,F⟩
def p9(F:List zb×List UInt8->Option (List zb×List zb)):Con I:=⟨54,⟨[.sl 74, .own 0],[(0, .sl 5)]⟩,[0],⟨[.sl 74, .sl 74],[]⟩,0,F⟩
def zjn(F:Int×zu->Option zf):Con I:=⟨267,⟨[.optr 0, .int .i64],[(0, .row 310)]⟩,[0],⟨[.val 72],[]⟩,0,F⟩
def zhW(F:zu->Option (Bool×zu)):Con I:=⟨265,⟨[.optr 0],[(0, .row 310)]⟩,[],⟨[.bool],[(0, .row 310)]⟩,0,F⟩
def zjj(F:Str×zu->Option (Bool×zu)):Con I:=⟨268,⟨[.optr 0, .str],[(0, .row 310)]⟩,[],⟨[.bool],[(0, .row 310)]⟩,0,F⟩
def zjk(F:zu->Option (Int×zu)):Con I:=⟨266,⟨[.optr 0],[(0, .row 310)]⟩,[],⟨[.int .u8],[(0, .row 310)]⟩,0,F⟩
def zjm(F:Int×zu->Option (List zb)):Con I:=⟨286,⟨[.optr 0, .int .i64],[(0, .row 310)]⟩,[0],⟨[.sl 74],[]⟩,0,F⟩
def zjl(F:zu->Option Bool):Con I:=⟨270,⟨[.optr 0],[(0, .row 310)]⟩,[0],⟨[.bool],[]⟩,0,F⟩
def zs7:=K0 285 [.sl 74] [.val 120, .bool]
def zqJ:=K0 303 [] [.sl 9]
def zs8:=K0 287 [.str] [.val 120, .bool]
def zqK:=K0 311 [.val 74] [.bool]
def zgc:=K0 96 [.sl 74, .clo 311 []] [.int .i64]
def zlC(F:zY->Option zY):Con I:=⟨319,⟨[.optr 0],[(0, .row 349)]⟩,[],⟨[],[(0, .row 349)]⟩,0,F⟩
def zn4(F:Int×zY->Option ((zf×Bool)×zY)):Con I:=⟨322,⟨[.optr 0, .int .u8],[(0, .row 349)]⟩,[],⟨[.val 72, .bool],[(0, .row 349)]⟩,0,F⟩
def zmA(F:zY->Option ((Int×Bool)×zY)):Con I:=⟨321,⟨[.optr 0],[(0, .row 349)]⟩,[],⟨[.int .i64, .bool],[(0, .row 349)]⟩,0,F⟩
def zhZ:=K0 326 [.str, .str] [.str, .bool]
def zlL:=K0 323 [.str, .str] [.str, .bool]
def zn3(F:zY->Option (Int×zY)):Con I:=⟨325,⟨[.optr 0],[(0, .row 349)]⟩,[],⟨[.int .i64],[(0, .row 349)]⟩,0,F⟩
def zlB(F:Str×zY->Option ((Int×Bool)×zY)):Con I:=⟨324,⟨[.optr 0, .str],[(0, .row 349)]⟩,[],⟨[.int .i64, .bool],[(0, .row 349)]⟩,0,F⟩
def zn2(F:zY->Option ((VAnb×Bool)×zY)):Con I:=⟨320,⟨[.optr 0],[(0, .row 349)]⟩,[],⟨[.val 118, .bool],[(0, .row 349)]⟩,0,F⟩
def zHA:=K0 312 [.sl 72] [.val 118, .int .i64]
def zvE:=K0 304 [.val 120, .sl 74, .val 124] [.val 120, .bool]
def zmH:=K0 288 [.str, .sl 74, .val 124] [.val 120, .bool]
def zhd(F:zg×zu->Option ((List zI×Bool)×zu)):Con I:=⟨269,⟨[.optr 0, .val 124],[(0, .row 310)]⟩,[],⟨[.sl 120, .bool],[(0, .row 310)]⟩,0,F⟩
def zlJ:=K0 233 [.sl 74, .val 124, .bool] [.val 113, .bool]
def Qo:=K0 190 [.sl 74, .val 124, .bool, .bool] [.sl 113, .bool]
def U2:=K0 147 [.sl 74] [.sl 113, .int .i64]
def LU(F:List zb->Option (List zb)):Con I:=⟨236,⟨[.sl 74],[]⟩,[],⟨[.own 0],[(0, .sl 74)]⟩,1,F⟩
def OE:=K0 192 [.sl 74] [.sl 74]
def L6:=K0 149 [.sl 74, .int .u8] [.sl 37, .int .i64]
def xZ:=K0 235 [.sl 74] [.sl 74]
def P5:=K0 234 [.sl 74] [.sl 74]
def P9(F:Int×List zb->Option Bool):Con I:=⟨193,⟨[.int .i64, .optr 0],[(0, .row 37)]⟩,[0],⟨[.bool],[]⟩,0,F⟩
def tZ:=K0 150 [.sl 74] [.sl 74, .int .i64]
def zCJ:=K0 191 [.sl 74] [.val 39, .bool]
def zD8:=K0 148 [.sl 74] [.sl 39, .int .i64]
def r9:=K0 99 [.sl 74, .sl 74] [.val 45, .bool]
def zfn(F:List Str->Option Int):Con I:=⟨103,⟨[.own 0, .clo 58 []],[(0, .sl 9)]⟩,[0],⟨[.int .i64],[]⟩,0,F⟩
def zeg(F:List Str->Option Bool):Con I:=⟨57,⟨[.own 0, .clo 58 []],[(0, .sl 9)]⟩,[0],⟨[.bool],[]⟩,0,F⟩
def zqN(F:List Str->Option Bool):Con I:=⟨28,⟨[.own 0],[(0, .sl 9)]⟩,[0],⟨[.bool],[]⟩,0,F⟩
def U1:=K0 151 [.sl 74] [.sl 9, .bool]
def zvJ:=K0 100 [.sl 74, .bool] [.val 45, .bool]
def zmB(F:zx->Option Int):Con I:=⟨194,⟨[.optr 0],[(0, .row 207)]⟩,[0],⟨[.int .u8],[]⟩,0,F⟩
def zmC(F:zx->Option (zb×zx)):Con I:=⟨195,⟨[.optr 0],[(0, .row 207)]⟩,[],⟨[.val 74],[(0, .row 207)]⟩,0,F⟩
def zkH(F:zx->Option (Bool×zx)):Con I:=⟨152,⟨[.optr 0],[(0, .row 207)]⟩,[],⟨[.bool],[(0, .row 207)]⟩,0,F⟩
def zmE(F:List Str×zx->Option (Str×zx)):Con I:=⟨196,⟨[.optr 0, .sl 9],[(0, .row 207)]⟩,[],⟨[.str],[(0, .row 207)]⟩,0,F⟩
def zji(F:zx->Option ((zw×Bool)×zx)):Con I:=⟨197,⟨[.optr 0],[(0, .row 207)]⟩,[],⟨[.val 42, .bool],[(0, .row 207)]⟩,0,F⟩
def zlE(F:zx->Option ((zw×Bool)×zx)):Con I:=⟨153,⟨[.optr 0],[(0, .row 207)]⟩,[],⟨[.val 42, .bool],[(0, .row 207)]⟩,0,F⟩
def Y5:=K0 101 [.sl 74] [.val 42, .int .i64]
def zCI:=K0 237 [.sl 74] [.val 39, .bool, .int .i64]
def zmD(F:zx->Option ((zw×Bool)×zx)):Con I:=⟨198,⟨[.optr 0],[(0, .row 207)]⟩,[],⟨[.val 42, .bool],[(0, .row 207)]⟩,0,F⟩
def vz(F:zx->Option ((zw×Bool)×zx)):Con I:=⟨154,⟨[.optr 0],[(0, .row 207)]⟩,[],⟨[.val 42, .bool],[(0, .row 207)]⟩,0,F⟩
def zqC:=K0 102 [.sl 74] [.val 42, .int .i64]
def zjo(F:(Bool×Str×List zb)×zq->Option ((zM×Bool)×zq)):Con I:=⟨55,⟨[.optr 0, .bool, .str, .sl 74, .nilp],[(0, .row 79)]⟩,[],⟨[.val 45, .bool],[(0, .row 79)]⟩,0,F⟩
def zlK(F:(Bool×Str×List zb×zb)×zq->Option ((zM×Bool)×zq)):Con I:=⟨55,⟨[.optr 0, .bool, .str, .sl 74, .ptr 74],[(0, .row 79)]⟩,[],⟨[.val 45, .bool],[(0, .row 79)]⟩,0,F⟩
def QH(F:(List zb×Bool)×zq->Option (List zM×zq)):Con I:=⟨25,⟨[.optr 0, .sl 74, .bool],[(0, .row 79)]⟩,[],⟨[.sl 45],[(0, .row 79)]⟩,0,F⟩
def I1:=K0 15 [.str] [.sl 45, .nilp, .int .i64]
def J2:=K0 5 [.str] [.val 25, .int .i64]
def ztd(F:Str->Option ((List zM×Int)×zq)):Con I:=⟨15,⟨[.str],[]⟩,[],⟨[.sl 45, .optr 0, .int .i64],[(0, .row 79)]⟩,1,F⟩
def zta:=K0 5 [.str] [.val 25, .int .i64]
def ztb:=K0 5 [.str] [.val 25, .int .i64]
def zu9:=K0 14 [.str, .sl 5] [.bool]
def zu8:=K0 4 [] [.bool]
def zvG:=K0 6 [.val 25] [.int .i64, .int .i64]
def uF:=K0 9 [.sl 45] [.int .i64]
def O8:=K0 175 [.str, .int .i64] [.bool]
def V8:=K0 127 [.str] [.bool]
def K9:=K0 211 [.int .u8] [.int .u8]
def L9:=K0 167 [.str] [.str]
def R8:=K0 241 [.str] [.bool]
def zsZ:=K0 189 [.val 120] [.val 241]
def l8:=K0 271 [.val 118] [.bool]
def P8:=K0 289 [.val 217, .int .u8] [.val 217, .bool]
def zs1:=K0 272 [.sl 113, .val 217, .int .u8] [.bool]
def zs2:=K0 242 [.val 120, .val 217] [.bool]
def zpC:=K0 210 [.val 116, .val 217] [.bool]
def jr:=K0 166 [.val 113, .val 217, .bool] [.bool]
def J3:=K0 118 [.sl 113] [.bool]
def vF:=K0 119 [.sl 113] [.int .i64]
def Y8:=K0 80 [.sl 113] [.int .i64]
def rE:=K0 145 [.sl 74, .sl 74] [.bool]
def p8:=K0 95 [.val 39, .val 39] [.bool]
def nE:=K0 50 [.val 42, .val 42] [.bool]
def Y2:=K0 81 [.val 42] [.bool]
def A9:=K0 120 [.str] [.bool]
def zsW:=K0 47 [.int .u8] [.int .u8]
def uE:=K0 86 [.sl 74] [.int .i64]
def yF:=K0 23 [.sl 74] [.sl 72]
def wF:=K0 212 [.sl 74, .int .u8] [.bool]
def D9:=K0 168 [.sl 74] [.int .i64]
def E9:=K0 243 [.str] [.bool]
def J9:=K0 273 [.int .u8] [.bool]
def G6:=K0 244 [.str] [.bool]
def H9:=K0 290 [.int .u8] [.bool]
def zCK:=K0 305 [.str, .int .i64] [.int .u8]
def zsV:=K0 291 [.str, .int .i64] [.int .i64]
def J6:=K0 313 [] [.str]
def rZ:=K0 314 [.int .u8] [.int .i64]
def K6:=K0 315 [.int .i64] [.str]
def zqD:=K0 306 [.str, .int .i64] [.str, .int .i64]
def zsU:=K0 292 [.str, .int .i64] [.val 72, .int .i64]
def zsR:=K0 307 [.int .u8] [.bool]
def zsP:=K0 293 [.int .u8] [.bool]
def zsO:=K0 294 [.str, .int .i64] [.bool]
def I9:=K0 295 [.str, .int .i64] [.str, .int .i64]
def zsQ:=K0 296 [.str, .int .i64] [.bool]
def zpB:=K0 297 [.str, .int .i64] [.bool]
def zsS:=K0 316 [.str, .int .i64] [.int .i64]
def zn6:=K0 308 [.str, .int .i64] [.int .i64, .bool]
def zlF:=K0 309 [.str] [.int .i64]
def zqE:=K0 298 [.str, .int .i64] [.val 72, .int .i64]
def zAc:=K0 299 [.str, .int .i64, .str] [.bool]
def M9:=K0 214 [.str, .str] [.bool]
def zAb:=K0 317 [.str, .int .i64] [.val 72, .int .i64]
def zlG:=K0 318 [.int .u8] [.bool]
def zAd:=K0 310 [.str, .int .i64] [.val 72, .int .i64]
def H6:=K0 300 [.str, .int .i64] [.val 72, .int .i64]
def I6:=K0 301 [.int .u8] [.int .u8]
def zAa:=K0 274 [.str, .int .i64] [.val 72, .int .i64]
def F9:=K0 245 [.int .u8] [.bool]
def M3:=K0 213 [.val 72] [.bool]
def G9:=K0 169 [.sl 72] [.int .i64]
def aG:=K0 170 [.sl 74] [.bool]
def zqF:=K0 171 [.sl 74] [.sl 74]
def zsX:=K0 172 [.str] [.bool]
def zsY:=K0 121 [.str, .sl 74] [.bool]
def C9:=K0 82 [.val 39] [.int .i64]
def N8:=K0 173 [.val 39] [.bool]
def zs4:=K0 122 [.val 42] [.bool]
def zs5:=K0 215 [.str] [.bool]
def zCL:=K0 216 [.int .i64] [.bool]
def zAe:=K0 174 [.val 42] [.bool, .bool]
def zvA:=K0 123 [.val 42] [.bool]
def zs3:=K0 83 [.val 42] [.bool]
def jE:=K0 124 [.val 42, .int .i64] [.int .i64]
def pE:=K0 125 [.val 42] [.int .i64]
def mG:=K0 126 [.val 42] [.bool]
def zmF:=K0 84 [.val 42] [.bool]
def zs6:=K0 85 [.sl 9] [.bool]
def LG:=K0 38 [.val 45] [.bool]
def X8:=K0 128 [.val 120] [.bool]
def VG:=K0 87 [.sl 113] [.int .i64]
def zlI:=K0 88 [.val 45] [.int .i64]
def iE:=K0 39 [.sl 45] [.int .i64]
def zvD:=K0 18 [.sl 45] [.bool]
def zvB:=K0 8 [.val 25] [.int .i64]
def zoa:=K0 10 [.val 45] [.int .i64]
def zob(F:(zf×Int×Int)×List ZK->Option (List ZK)):Con I:=⟨44,⟨[.val 72, .int .i64, .int .i64, .optr 0],[(0, .cells 65 [.own 1]),(1, .sl 70)]⟩,[],⟨[],[(0, .cells 65 [.own 2]),(2, .sl 70)]⟩,1,F⟩
def zth(F:Str->Option (Int×List ZK)):Con I:=⟨42,⟨[.str, .clo 44 [0]],[(0, .cells 65 [.nilv])]⟩,[],⟨[.int .i64],[(0, .cells 65 [.own 1]),(1, .sl 70)]⟩,1,F⟩
def l9:=K0 21 [.str] [.sl 70, .int .i64]
def zsN:=K0 11 [.str] [.int .i64, .bool]
def R9:=K0 12 [.str] [.bool]
def zlH:=K0 144 [.sl 120, .sl 120] [.bool]
def U8:=K0 94 [.val 113, .val 113] [.bool]
def Nv:=K0 48 [.sl 113, .sl 113] [.bool]
def K3:=K0 49 [.sl 39, .sl 39] [.bool]
def zn7:=K0 51 [.sl 51, .sl 51] [.bool]
def zvC:=K0 24 [.val 45, .val 45] [.bool]
def Pz:=K0 13 [.sl 45, .sl 45] [.bool]
def AU:=K0 3 [.str] [.bool]
def zHB:=K0 19 [.str] [.str, .int .i64]
theorem pI:ZR Tryz.prog (zHB Ck):=zEZ
def zEa:=K0 104 [.str, .int .u8] [.int .i64]
theorem zDl:ZR Tryz.prog (zEa IB):=zC0
def zHC:=K0 132 [.str, .str] [.int .i64]
theorem nC:ZR Tryz.prog (zHC Km):=zE0
def zHE:=K0 229 [.str, .str] [.str]
theorem zF0:ZR Tryz.prog (zHE Ao):=zE2
def vZ:=K0 230 [.str, .str] [.int .i64]
theorem cZ:ZR Tryz.prog (vZ mo):=R3
def zL1:=K0 231 [.str, .str] [.str, .str, .bool]
theorem zLa:ZR Tryz.prog (zL1 cutF):=zKA
def zHD:=K0 22 [.sl 72] [.sl 74, .int .i64]
theorem lC:ZR Tryz.prog (zHD parseF):=zE1
def zKf:=K0 327 [.str, .str] [.str]
theorem zIQ:ZR Tryz.prog (zKf trimF):=zIi
def zEb:=K0 328 [.str, .int .i64, .int .i64] [.int .i64, .ifb]
theorem zDm:ZR Tryz.prog (zEb uw):=zC1
variable [Fu]
theorem okC{con:Con I}{S:List (Con I)}(f:Go.Func)(hS: ∀c∈S,ZR Tryz.prog c)(fz:List (Nat×List Nat):=[])(pre:List (Nat×List (Nat×Option Nat)):=[])(p:Nat:=0)(cuts:List (Nat×Cut):=[])(joins:List (Nat×Cut):=[])(cls:List (Nat×List Nat):=[])(fl:Option Nat:=Fu.n)(exS:StSh:=con.outS)(hf:Tryz.prog.funcs[con.f]? =some f:=by kernel_rfl)(h:chk con (⟨S,fz,pre,p,cuts,joins,cls,fl⟩:Env0 I) f=true:=by kernel_rfl)(he: ∀x,evF2 (⟨S,fz,pre,p,cuts,joins,cls,fl⟩:Env0 I) T FK f.ntmps (rsl f) (body f) con exS x=con.F x:=by intro x;kernel_rfl):ZR Tryz.prog con:=
 okC0 mixed ipOK tok rfl rfl hS hf h he
theorem recC(c:Con I)(B:((c.inS.sl I).T->Option (c.outS.sl I).T)->(c.inS.sl I).T->Option (c.outS.sl I).T)(hB: ∀S,ZR Tryz.prog (⟨c.f,c.inS,c.cst,c.outS,c.k,S⟩:Con I)->ZR Tryz.prog (⟨c.f,c.inS,c.cst,c.outS,c.k,B S⟩:Con I))(hwf:Xk (⟨c.f,c.inS,c.cst,c.outS,c.k,fun _=>Option.none⟩:Con I)=true:=by kernel_rfl):ZR Tryz.prog (⟨c.f,c.inS,c.cst,c.outS,c.k,Lv.recE B⟩:Con I):=ZR.recE B hwf hB
theorem qQ:CO (zlN strings_IndexByte):=
 okC Tryz.f59 (memC zDl zF)
theorem jT:CO (zqM Sz):=
 okC Tryz.f58 (memC qQ zF)
theorem ze0:CO (zfm Qn):=
 okC Tryz.f103 (memC jT zF) (cuts:=[(2,⟨[8],⟨[.int .i64],[]⟩,[0,1,7],[],[],0,[],⟨[],[]⟩,[]⟩)])
theorem zdL:CO (zef qG):=
 okC Tryz.f57 (memC ze0 zF)
theorem ztQ:CO (zvK KE):=
 okC Tryz.f28 (memC zdL zF)
theorem zrW:CO (ztc xE):=
 okC Tryz.f27 (memC ztQ zF)
theorem zgf:CO (zgQ UL):=
 okC Tryz.f56 (memC zrW zF) (cuts:=[(2,⟨[8],⟨[.int .i64],[]⟩,[0,1,7],[],[],0,[],⟨[],[]⟩,[]⟩)])
theorem zeD:CO (zeP qW):=
 okC Tryz.f26 (memC zgf zF)
theorem zo1(Qm:List zm->Option Int)(hs:CO (UG Qm)):CO (UG (NG Qm)):=
 okC Tryz.f29 (memC hs zF) (cuts:=[(3,⟨[3,14],⟨[.int .i64, .int .i64],[]⟩,[2,12,13],[],[],0,[3],⟨[.int .i64],[]⟩,[]⟩),(6,⟨[3,21],⟨[.int .i64, .int .i64],[]⟩,[14,19,20],[],[],2,[3],⟨[.int .i64],[]⟩,[]⟩),(9,⟨[3,28],⟨[.int .i64, .int .i64],[]⟩,[21,26,27],[],[],4,[3],⟨[.int .i64],[]⟩,[]⟩)]) (joins:=[(15,⟨[3,28],⟨[.int .i64, .int .i64],[]⟩,[],[],[],0,[],⟨[],[]⟩,[]⟩)])
theorem zoK:CO (UG Qm):=recC (UG Qm) (NG) (fun S h=>zo1 S h)
theorem UT:CO (zs9 Cv):=
 okC Tryz.f203 (memC qQ zF)
theorem rT:CO (zqI Pv):=
 okC Tryz.f199 (memC UT zF)
theorem qb:CO (zu7 ZN):=
 okC Tryz.f53 zF (cuts:=[(3,⟨[10],⟨[.int .i64],[(0, .sl 5)]⟩,[2,3,8,9],[],[0],0,[],⟨[],[(0, .sl 5)]⟩,[0]⟩)]) (joins:=[(7,⟨[10],⟨[.int .i64],[(0, .sl 5)]⟩,[],[],[0],0,[],⟨[],[]⟩,[]⟩)])
theorem lT:CO (zqL Ov):=
 okC Tryz.f157 (memC rT (memC qb zF))
theorem zpU:CO (zqH aF):=
 okC Tryz.f200 zF (joins:=[(4,⟨[6],⟨[.bool],[]⟩,[1,5],[0],[],0,[],⟨[],[]⟩,[]⟩),(7,⟨[11],⟨[.bool],[]⟩,[],[],[],0,[],⟨[],[]⟩,[]⟩),(10,⟨[14],⟨[.bool],[]⟩,[],[],[],0,[],⟨[],[]⟩,[]⟩)])
theorem JL:CO (zmI QF):=
 okC Tryz.f201 zF (exS:=⟨[.optr 0, .bool],[(0, .row 124)]⟩)
theorem E8:CO (l5 kD):=
 okC Tryz.f238 zF
theorem WR:CO (lZ Su):=
 okC Tryz.f204 (memC E8 zF)
theorem zl9(zy:zm×zg×Bool->Option Bool)(h_seltext_whole:CO (ZU zy)):CO (zmJ (DL zy)):=
 okC Tryz.f202 (memC h_seltext_whole zF) (p:=2)
theorem zeE(zy:zm×zg×Bool->Option Bool)(h_seltext_whole:CO (ZU zy)):CO (zeQ (YL zy)):=
 okC Tryz.f105 (memC (zl9 zy h_seltext_whole) zF) (p:=2) (cuts:=[(2,⟨[8],⟨[.int .i64],[]⟩,[0,1,7],[],[],0,[],⟨[],[]⟩,[]⟩)])
theorem zdu(zy:zm×zg×Bool->Option Bool)(h_seltext_whole:CO (ZU zy)):CO (zdx (qx zy)):=
 okC Tryz.f60 (memC (zeE zy h_seltext_whole) zF) (p:=2)
theorem zoJ(zy:zm×zg×Bool->Option Bool)(h_seltext_whole:CO (ZU zy)):CO (zpD (Wz zy)):=
 okC Tryz.f158 (memC zpU (memC JL (memC (zdu zy h_seltext_whole) (memC rT (memC lT (memC UT (memC WR zF))))))) (joins:=[(8,⟨[],⟨[],[]⟩,[2],[0],[],0,[],⟨[],[]⟩,[]⟩),(15,⟨[89],⟨[.bool],[]⟩,[10,88],[],[],0,[],⟨[],[]⟩,[]⟩)])
theorem BU(zy:zm×zg×Bool->Option Bool)(h_seltext_whole:CO (ZU zy)):CO (zmG (Rv zy)):=
 okC Tryz.f108 (memC lT (memC (zoJ zy h_seltext_whole) zF)) (cuts:=[(4,⟨[30],⟨[.int .i64],[]⟩,[2,3,28,29],[0,1],[],0,[],⟨[],[]⟩,[]⟩)])
theorem znA(zy:zm×zg×Bool->Option Bool)(h_seltext_whole:CO (ZU zy)):CO (zn9 (wK zy)):=
 okC Tryz.f107 (memC (BU zy h_seltext_whole) zF) (p:=1)
theorem zeZ(zy:zm×zg×Bool->Option Bool)(h_seltext_whole:CO (ZU zy)):CO (zfl (nL zy)):=
 okC Tryz.f156 (memC (znA zy h_seltext_whole) zF) (p:=1) (cuts:=[(2,⟨[8],⟨[.int .i64],[]⟩,[0,1,7],[],[],0,[],⟨[],[]⟩,[]⟩)])
theorem zdK(zy:zm×zg×Bool->Option Bool)(h_seltext_whole:CO (ZU zy)):CO (zee (qF zy)):=
 okC Tryz.f106 (memC (zeZ zy h_seltext_whole) zF) (p:=1)
theorem zp4(zy:zm×zg×Bool->Option Bool)(hs:CO (ZU zy)):CO (ZU (kF zy)):=
 okC Tryz.f62 (memC (zdK zy hs) zF) (cuts:=[(4,⟨[38],⟨[.int .i64],[]⟩,[3,4,36,37],[0,1],[],0,[],⟨[],[]⟩,[]⟩)])
theorem kT:CO (ZU zy):=recC (ZU zy) (kF) (fun S h=>zp4 S h)
theorem znz:CO (zn8 xK):=
 okC Tryz.f61 (memC kT zF)
theorem zfN:CO (zf9 dL):=
 okC Tryz.f105 (memC znz zF) (cuts:=[(2,⟨[8],⟨[.int .i64],[]⟩,[0,1,7],[],[],0,[],⟨[],[]⟩,[]⟩)])
theorem zeo:CO (zeA qM):=
 okC Tryz.f60 (memC zfN zF)
theorem zp2(Ql:List zm->Option Int)(hs:CO (YG Ql)):CO (YG (lF Ql)):=
 okC Tryz.f63 (memC hs zF) (cuts:=[(3,⟨[3,14],⟨[.int .i64, .int .i64],[]⟩,[2,12,13],[],[],0,[3],⟨[.int .i64],[]⟩,[]⟩),(6,⟨[3,21],⟨[.int .i64, .int .i64],[]⟩,[14,19,20],[],[],2,[3],⟨[.int .i64],[]⟩,[]⟩),(9,⟨[3,28],⟨[.int .i64, .int .i64],[]⟩,[21,26,27],[],[],4,[3],⟨[.int .i64],[]⟩,[]⟩)])
theorem tT:CO (YG Ql):=recC (YG Ql) (lF) (fun S h=>zp2 S h)
theorem zpT:CO (zqG bF):=
 okC Tryz.f30 (memC zeo (memC tT zF))
theorem ztP:CO (zvI lu):=
 okC Tryz.f31 zF
theorem mK:CO (O9 uu):=
 okC Tryz.f46 zF (joins:=[(7,⟨[6],⟨[.bool],[]⟩,[0],[],[],0,[],⟨[],[]⟩,[]⟩)])
theorem nZ(jl:List zb×Int->Option ZG)(hs:CO (PE jl)):CO (PE (yD jl)):=
 okC Tryz.f65 (memC mK (memC hs zF)) (cuts:=[(3,⟨[12],⟨[.int .i64],[(1, .row 128)]⟩,[1,4,5,10,11],[0],[1],0,[],⟨[],[(1, .row 128)]⟩,[1]⟩)]) (joins:=[(9,⟨[],⟨[],[(1, .row 128)]⟩,[7,8,12],[2],[1],0,[],⟨[],[]⟩,[]⟩),(12,⟨[12],⟨[.int .i64],[(1, .row 128)]⟩,[],[],[1],0,[],⟨[],[]⟩,[]⟩)]) (exS:=⟨[.optr 0],[(0, .row 128)]⟩)
theorem TR:CO (PE jl):=recC (PE jl) (yD) (fun S h=>nZ S h)
theorem Xr:CO (O6 Yl):=
 okC Tryz.f64 (memC TR zF)
theorem XK:CO (M6 wo):=
 okC Tryz.f32 (memC Xr (memC TR zF))
theorem zue(Sn:List zb×List zf->Option (List zf))(hs:CO (YF Sn)):CO (YF (WF Sn)):=
 okC Tryz.f109 (memC mK (memC hs zF)) (fz:=[(4,[3]),(7,[6])]) (p:=1) (cuts:=[(2,⟨[0,10],⟨[.own 1001, .int .i64],[(1001, .sl 72)]⟩,[4,8,9],[],[],0,[0],⟨[.own 1001],[(1001, .sl 72)]⟩,[1001]⟩)]) (joins:=[(8,⟨[0,10],⟨[.own 1103, .int .i64],[(1103, .sl 72)]⟩,[],[],[],0,[],⟨[],[]⟩,[]⟩)])
theorem ztw:CO (YF Sn):=recC (YF Sn) (WF) (fun S h=>zue S h)
theorem ztv:CO (N9 CE):=
 okC Tryz.f109 (memC mK (memC ztw zF)) (fz:=[(4,[3]),(7,[6])]) (cuts:=[(2,⟨[0,10],⟨[.own 1105, .int .i64],[(1105, .sl 72)]⟩,[4,8,9],[],[],0,[0],⟨[.own 1105],[(1105, .sl 72)]⟩,[1105]⟩)]) (joins:=[(8,⟨[0,10],⟨[.own 1207, .int .i64],[(1207, .sl 72)]⟩,[],[],[],0,[],⟨[],[]⟩,[]⟩)])
theorem UR:CO (uZ Gy):=
 okC Tryz.f66 (memC Xr (memC ztv zF))
theorem gL:CO (zh0 stringslite_HasPrefix):=
 okC Tryz.f113 zF
theorem qP:CO (zlM strings_HasPrefix):=
 okC Tryz.f74 (memC gL zF)
theorem A8:CO (R5 fD):=
 okC Tryz.f67 (memC qQ (memC qP (memC qb zF)))
theorem zg5:CO (zhg stringslite_TrimPrefix):=
 okC Tryz.f239 (memC gL zF)
theorem zjS:CO (zkJ strings_TrimPrefix):=
 okC Tryz.f205 (memC zg5 zF)
theorem nR:CO (M5 ku):=
 okC Tryz.f206 zF
theorem zrE:CO (zsL YE):=
 okC Tryz.f159 (memC zjS (memC nR zF))
theorem ztq:CO (zu5 yQ):=
 okC Tryz.f207 zF
theorem X7:CO (R6 eD):=
 okC Tryz.f160 (memC ztq (memC nR zF))
theorem zma:CO (zmK strings_Contains):=
 okC Tryz.f161 (memC nC zF)
theorem dZ:CO (wZ TD):=
 okC Tryz.f110 (memC qQ (memC zrE (memC qP (memC X7 (memC zma zF))))) (joins:=[(8,⟨[3,4,5,6,7,25],⟨[.bool, .bool, .bool, .bool, .bool, .bool],[]⟩,[1,16],[],[],0,[],⟨[],[]⟩,[]⟩),(14,⟨[3,4,5,6,7,63],⟨[.bool, .bool, .bool, .bool, .bool, .bool],[]⟩,[],[],[],0,[],⟨[],[]⟩,[]⟩),(22,⟨[4,5,6,7,94],⟨[.bool, .bool, .bool, .bool, .bool],[]⟩,[3],[],[],0,[],⟨[],[]⟩,[]⟩),(24,⟨[3,4,5,6,7],⟨[.bool, .bool, .bool, .bool, .bool],[]⟩,[1],[0],[],0,[],⟨[],[]⟩,[]⟩)])
theorem zrF:CO (zsM Jp):=
 okC Tryz.f162 zF (p:=1)
theorem Vr:CO (zu6 QB):=
 okC Tryz.f163 (memC qb zF)
theorem V7:CO (P6 dD):=
 okC Tryz.f111 (memC zrF (memC Vr zF)) (joins:=[(11,⟨[5],⟨[.int .i64],[]⟩,[3],[0],[],0,[],⟨[],[]⟩,[]⟩)])
theorem Y7:CO (O5 Sy):=
 okC Tryz.f68 (memC dZ (memC V7 zF)) (cuts:=[(4,⟨[10],⟨[.int .i64],[]⟩,[0,8,9],[],[],0,[],⟨[],[]⟩,[]⟩)])
theorem Ar:CO (zD9 QA):=
 okC Tryz.f72 zF
theorem zoF(Zr:List zb->Option Bool)(h_decl_closers:CO (Sr Zr)):CO (zpA (rz Zr)):=
 okC Tryz.f112 (memC Ar (memC h_decl_closers zF))
theorem zg4(Zr:List zb->Option Bool)(h_decl_closers:CO (Sr Zr)):CO (zhf (NL Zr)):=
 okC Tryz.f96 (memC (zoF Zr h_decl_closers) zF) (cuts:=[(2,⟨[8],⟨[.int .i64],[]⟩,[0,1,7],[],[],0,[],⟨[],[]⟩,[]⟩)])
theorem zeY(Zr:List zb->Option Bool)(h_decl_closers:CO (Sr Zr)):CO (zfk (oL Zr)):=
 okC Tryz.f70 (memC (zg4 Zr h_decl_closers) zF)
theorem zsm(Zr:List zb->Option Bool)(hs:CO (Sr Zr)):CO (Sr (KG Zr)):=
 okC Tryz.f69 (memC (zeY Zr hs) zF)
theorem zrC:CO (Sr Zr):=recC (Sr Zr) (KG) (fun S h=>zsm S h)
theorem VR:CO (yZ rq):=
 okC Tryz.f73 (memC Ar zF)
theorem zrB:CO (zsK bE):=
 okC Tryz.f71 (memC Ar (memC VR zF))
theorem zfO:CO (zga bL):=
 okC Tryz.f96 (memC zrB zF) (cuts:=[(2,⟨[8],⟨[.int .i64],[]⟩,[0,1,7],[],[],0,[],⟨[],[]⟩,[]⟩)])
theorem zep:CO (zeB qN):=
 okC Tryz.f70 (memC zfO zF)
theorem YK:CO (U5 Gn):=
 okC Tryz.f33 (memC UR (memC A8 (memC Y7 (memC zrC (memC zep (memC qP (memC Ar zF)))))))
theorem zug(Bn:zw->Option Int)(hs:CO (XF Bn)):CO (XF (TF Bn)):=
 okC Tryz.f34 (memC hs zF) (cuts:=[(5,⟨[3,17],⟨[.int .i64, .int .i64],[]⟩,[15,16],[],[],0,[3],⟨[.int .i64],[]⟩,[]⟩)]) (joins:=[(4,⟨[3],⟨[.int .i64],[]⟩,[1],[0],[],0,[],⟨[],[]⟩,[]⟩)])
theorem ztO:CO (XF Bn):=recC (XF Bn) (TF) (fun S h=>zug S h)
theorem WE:CO (O0 ol):=
 okC Tryz.f78 zF
theorem RL:CO (zjq slices_Index_string):=
 okC Tryz.f240 zF (cuts:=[(2,⟨[8],⟨[.int .i64],[]⟩,[0,1,7],[],[],0,[],⟨[],[]⟩,[]⟩)])
theorem zg3:CO (zhe slices_Contains_string):=
 okC Tryz.f208 (memC RL zF)
theorem uS:CO (zu1 xu):=
 okC Tryz.f164 (memC zg3 (memC qb (memC qQ zF))) (fz:=[(1,[0])])
theorem ztp:CO (zu4 CK):=
 okC Tryz.f209 zF (cuts:=[(2,⟨[7],⟨[.int .i64],[]⟩,[5,6],[],[],0,[],⟨[],[]⟩,[]⟩)])
theorem sS:CO (zu3 wu):=
 okC Tryz.f165 (memC ztp zF) (fz:=[(1,[1])])
theorem C8:CO (V5 Vy):=
 okC Tryz.f115 (memC WE (memC uS (memC sS zF))) (cuts:=[(4,⟨[23],⟨[.int .i64],[]⟩,[21,22],[],[],0,[],⟨[],[]⟩,[]⟩)]) (joins:=[(17,⟨[57],⟨[.bool],[]⟩,[4,23],[1],[],0,[],⟨[],[]⟩,[]⟩),(19,⟨[23],⟨[.int .i64],[]⟩,[],[],[],0,[],⟨[],[]⟩,[]⟩)])
theorem D8:CO (X5 gD):=
 okC Tryz.f116 zF
theorem iZ:CO (kZ OD):=
 okC Tryz.f77 (memC WE (memC C8 (memC D8 zF)))
theorem zkQ:CO (zlD lG):=
 okC Tryz.f76 (memC iZ zF)
theorem zhz:CO (zhY WL):=
 okC Tryz.f114 (memC zkQ zF) (cuts:=[(2,⟨[8],⟨[.int .i64],[]⟩,[0,1,7],[],[],0,[],⟨[],[]⟩,[]⟩)])
theorem zfM:CO (zf8 Qw):=
 okC Tryz.f75 (memC zhz zF)
theorem zno:CO (zn5 XG):=
 okC Tryz.f35 (memC zfM (memC WE zF))
theorem K4(Vl:zw->Option Int)(hs:CO (dE Vl)):CO (dE (Av Vl)):=
 okC Tryz.f36 (memC XK (memC hs zF)) (cuts:=[(9,⟨[5,27],⟨[.int .i64, .int .i64],[]⟩,[2,25,26],[],[],1,[5],⟨[.int .i64],[]⟩,[]⟩)]) (joins:=[(14,⟨[5,8],⟨[.int .i64, .int .i64],[]⟩,[27],[],[],0,[],⟨[],[]⟩,[]⟩)])
theorem G8:CO (dE Vl):=recC (dE Vl) (Av) (fun S h=>K4 S h)
theorem gZ:CO (M0 ND):=
 okC Tryz.f117 zF
theorem oZ(Mk:zw×Int->Option ((Int×Bool)×Int))(hs:CO (SE Mk)):CO (SE (yu Mk)):=
 okC Tryz.f79 (memC XK (memC YK (memC WE (memC hs (memC gZ zF))))) (p:=1) (cuts:=[(19,⟨[9,97],⟨[.int .i64, .int .i64],[(0, .row 3)]⟩,[1,95,96],[],[0],1,[9],⟨[.int .i64],[(0, .row 3)]⟩,[0]⟩)]) (joins:=[(15,⟨[69],⟨[.bool],[]⟩,[1,2,6],[0,1],[],0,[],⟨[],[]⟩,[]⟩),(26,⟨[9,12],⟨[.int .i64, .int .i64],[]⟩,[97],[0],[],0,[],⟨[],[]⟩,[]⟩)])
theorem fZ:CO (SE Mk):=recC (SE Mk) (yu) (fun S h=>oZ S h)
theorem GU:CO (zkG uz):=
 okC Tryz.f37 (memC fZ zF)
theorem M4(Il:List zM->Option zG)(hs:CO (fE Il)):CO (fE (Bv Il)):=
 okC Tryz.f16 (memC hs (memC zeD (memC zoK (memC zpT (memC ztP (memC XK (memC YK (memC ztO (memC zno (memC G8 (memC GU zF))))))))))) (cuts:=[(3,⟨[18],⟨[.int .i64],[(1, .row 56)]⟩,[2,3,16,17],[0],[1],0,[],⟨[],[(1, .row 56)]⟩,[1]⟩),(17,⟨[10,87],⟨[.bool, .int .i64],[(3, .row 56)]⟩,[6,7,18,85,86],[1],[3],3,[10],⟨[.bool],[(3, .row 56)]⟩,[3]⟩)]) (joins:=[(35,⟨[7,10],⟨[.int .i64, .bool],[(1, .row 56),(3, .row 56)]⟩,[6,18],[],[1,3],0,[],⟨[],[]⟩,[]⟩)]) (exS:=⟨[.optr 0],[(0, .row 56)]⟩)
theorem vR:CO (fE Il):=recC (fE Il) (Bv) (fun S h=>M4 S h)
theorem aS:CO (zvH nu):=
 okC Tryz.f17 (memC vR zF)
theorem sK:CO (zvF Er):=
 okC Tryz.f7 (memC aS zF)
theorem NU:CO (zhh ZF):=
 okC Tryz.f92 (memC qP (memC nC zF)) (p:=1) (cuts:=[(0,⟨[],⟨[],[(0, .row 163)]⟩,[0],[],[0],0,[],⟨[],[(0, .row 163)]⟩,[0]⟩)])
theorem Zk:CO (zkM zo):=
 okC Tryz.f133 zF (p:=1)
theorem Yz:CO (X9 Dr):=
 okC Tryz.f134 zF
theorem PL:CO (zjs qa):=
 okC Tryz.f135 (memC Zk (memC Yz zF)) (p:=1) (cuts:=[(0,⟨[],⟨[],[(0, .row 163)]⟩,[0,1],[],[0],0,[],⟨[],[(0, .row 163)]⟩,[0]⟩)])
theorem ze2:CO (zfo kL):=
 okC Tryz.f256 zF (fz:=[(2,[1]),(4,[9]),(7,[14]),(9,[19])]) (joins:=[(7,⟨[25],⟨[.bool],[]⟩,[0,1,5],[],[],0,[],⟨[],[]⟩,[]⟩)])
theorem zk1:CO (zlR QT):=
 okC Tryz.f226 (memC ze2 zF) (fz:=[(2,[3])])
theorem pF:CO (zti Np):=
 okC Tryz.f228 zF
theorem az:CO (d9 Q9):=
 okC Tryz.f185 (memC pF zF)
theorem NR:CO (zAf Uu):=
 okC Tryz.f227 (memC az (memC pF zF))
theorem zgg:CO (zgR QO):=
 okC Tryz.f183 (memC Zk (memC zk1 (memC NR (memC Yz zF)))) (fz:=[(7,[3])]) (p:=1) (cuts:=[(10,⟨[6,36],⟨[.int .i64, .int .i64],[(0, .row 163)]⟩,[0,1,4],[],[0],0,[6],⟨[.int .i64],[(0, .row 163)]⟩,[0]⟩)]) (joins:=[(17,⟨[6],⟨[.int .i64],[(0, .row 163)]⟩,[1],[],[0],0,[],⟨[],[]⟩,[]⟩),(19,⟨[6],⟨[.int .i64],[]⟩,[],[0],[],0,[],⟨[],[]⟩,[]⟩)])
theorem ze3:CO (zfp jL):=
 okC Tryz.f256 zF (fz:=[(2,[1]),(4,[9]),(7,[14]),(9,[19])]) (p:=1) (joins:=[(7,⟨[25],⟨[.bool],[(0, .sl 5)]⟩,[0,1,5],[],[0],0,[],⟨[],[]⟩,[]⟩)])
theorem zk2:CO (zlS QU):=
 okC Tryz.f226 (memC ze3 zF) (fz:=[(2,[3])]) (p:=1)
theorem aL:CO (zgS qd):=
 okC Tryz.f183 (memC Zk (memC zk2 (memC NR (memC Yz zF)))) (fz:=[(7,[3])]) (p:=2) (cuts:=[(10,⟨[6,36],⟨[.int .i64, .int .i64],[(0, .row 163)]⟩,[0,1,4],[1],[0],0,[6],⟨[.int .i64],[(0, .row 163)]⟩,[0]⟩)]) (joins:=[(17,⟨[6],⟨[.int .i64],[(0, .row 163),(1, .sl 5)]⟩,[1],[],[0,1],0,[],⟨[],[]⟩,[]⟩),(19,⟨[6],⟨[.int .i64],[(1, .sl 5)]⟩,[],[0],[1],0,[],⟨[],[]⟩,[]⟩)])
theorem zir:CO (zi4 sG):=
 okC Tryz.f136 (memC Zk (memC aL zF)) (fz:=[(5,[3])]) (p:=1) (cuts:=[(4,⟨[4],⟨[.own 1208],[(0, .row 163),(1, .row 72),(1208, .sl 5)]⟩,[0,2,3],[],[0,1],0,[4],⟨[.own 1208],[(0, .row 163),(1, .row 72),(1208, .sl 5)]⟩,[0,1,1208]⟩)]) (exS:=⟨[.optr 1],[(0, .row 163),(1, .row 72)]⟩)
theorem WS:CO (Y9 Bz):=
 okC Tryz.f184 (memC pF zF)
theorem PT:CO (ztf wE):=
 okC Tryz.f137 (memC WS (memC az zF))
theorem qK:CO (zi2 Zy):=
 okC Tryz.f138 (memC Zk zF) (p:=1)
theorem EU:CO (zkK ZA):=
 okC Tryz.f139 (memC Zk (memC WS (memC qK zF))) (p:=1)
theorem XL:CO (zkN ZO):=
 okC Tryz.f140 (memC Zk (memC PT (memC qK (memC aL zF)))) (fz:=[(5,[3])]) (p:=1) (cuts:=[(2,⟨[3],⟨[.own 1209],[(0, .row 163),(1209, .sl 5)]⟩,[0],[],[0],0,[],⟨[],[]⟩,[]⟩)])
theorem ziq:CO (zi3 qR):=
 okC Tryz.f141 (memC Zk (memC az zF)) (p:=1) (joins:=[(5,⟨[3],⟨[.int .i64],[]⟩,[0],[],[],0,[],⟨[],[]⟩,[]⟩),(7,⟨[3],⟨[.int .i64],[]⟩,[],[],[],0,[],⟨[],[]⟩,[]⟩)])
theorem zhD:CO (zh3 ZJ):=
 okC Tryz.f135 (memC Zk (memC az zF)) (p:=1) (cuts:=[(0,⟨[],⟨[],[(0, .row 163)]⟩,[0,1],[],[0],0,[],⟨[],[(0, .row 163)]⟩,[0]⟩)])
theorem zhB:CO (zh1 oG):=
 okC Tryz.f186 (memC Zk (memC zhD (memC az zF))) (p:=1) (joins:=[(4,⟨[],⟨[],[(0, .row 163)]⟩,[0],[],[0],0,[],⟨[],[]⟩,[]⟩),(10,⟨[4],⟨[.bool],[(0, .row 163)]⟩,[],[],[0],0,[],⟨[],[]⟩,[]⟩),(15,⟨[4,5],⟨[.bool, .int .i64],[(0, .row 163)]⟩,[],[],[0],0,[],⟨[],[]⟩,[]⟩),(19,⟨[4],⟨[.bool],[(0, .row 163)]⟩,[],[],[0],0,[],⟨[],[]⟩,[]⟩)])
theorem zk0:CO (zlQ nG):=
 okC Tryz.f187 (memC zF0 (memC cZ (memC zLa zF))) (cuts:=[(8,⟨[6,31],⟨[.int .i64, .int .i64],[]⟩,[0,2,3,4,5,29,30],[0],[],0,[6],⟨[.int .i64],[]⟩,[]⟩),(22,⟨[12,81],⟨[.int .i64, .int .i64],[]⟩,[4,79,80],[0],[],2,[12],⟨[.int .i64],[]⟩,[]⟩),(26,⟨[4,12],⟨[.int .i64, .int .i64],[]⟩,[],[],[],4,[12],⟨[.int .i64],[]⟩,[]⟩)]) (joins:=[(14,⟨[0,4,6],⟨[.str, .int .i64, .int .i64],[]⟩,[3,5],[],[],0,[],⟨[],[]⟩,[]⟩),(15,⟨[0,4],⟨[.str, .int .i64],[]⟩,[3],[],[],0,[],⟨[],[]⟩,[]⟩),(20,⟨[0,4],⟨[.str, .int .i64],[]⟩,[],[],[],0,[],⟨[],[]⟩,[]⟩),(31,⟨[12],⟨[.int .i64],[]⟩,[],[],[],0,[],⟨[],[]⟩,[]⟩)])
theorem zhC:CO (zh2 Qs):=
 okC Tryz.f142 (memC zhB (memC zk0 (memC EU (memC XL (memC Zk zF))))) (p:=1) (joins:=[(9,⟨[],⟨[],[(0, .row 163),(1, .row 72),(2, .row 72)]⟩,[2,5],[],[0,1,2],0,[],⟨[],[]⟩,[]⟩)]) (exS:=⟨[.optr 1],[(0, .row 163),(1, .row 72)]⟩)
theorem zkY:CO (zlO QR):=
 okC Tryz.f232 (memC Zk (memC qK (memC zgg zF))) (p:=1) (cuts:=[(1,⟨[],⟨[],[(0, .row 163),(1, .row 72)]⟩,[0,2],[],[0,1],0,[],⟨[],[]⟩,[]⟩)]) (exS:=⟨[.optr 1],[(0, .row 163),(1, .row 72)]⟩)
theorem zkZ:CO (zlP eG):=
 okC Tryz.f188 (memC PL (memC Zk (memC Yz (memC zkY (memC pF (memC qK (memC aL zF))))))) (fz:=[(18,[3])]) (p:=1) (cuts:=[(3,⟨[3],⟨[.own 1210],[(0, .row 163),(1, .row 72),(1210, .sl 5)]⟩,[0,2],[],[0,1],0,[],⟨[],[]⟩,[]⟩)]) (joins:=[(10,⟨[3,4],⟨[.own 1210, .int .i64],[(0, .row 163),(1, .row 72),(1210, .sl 5)]⟩,[],[],[0,1,1210],0,[],⟨[],[]⟩,[]⟩)]) (exS:=⟨[.optr 1],[(0, .row 163),(1, .row 72)]⟩)
theorem zjc:CO (zjr Qh):=
 okC Tryz.f143 (memC XL (memC Zk (memC Vr (memC PL (memC zkZ zF))))) (p:=1) (joins:=[(11,⟨[],⟨[],[(0, .row 163),(1, .row 72)]⟩,[2,3],[],[0,1],0,[],⟨[],[]⟩,[]⟩)]) (exS:=⟨[.optr 1],[(0, .row 163),(1, .row 72)]⟩)
theorem DU:CO (zkL qO):=
 okC Tryz.f93 (memC Zk (memC Yz (memC PL (memC zir (memC PT (memC qK (memC EU (memC XL (memC ziq (memC zhC (memC qP (memC zjc (memC qQ zF))))))))))))) (p:=1) (exS:=⟨[.optr 1],[(0, .row 163),(1, .row 72)]⟩)
theorem zmb:CO (zmL MG):=
 okC Tryz.f43 zF (fz:=[(1,[2])]) (p:=2)
theorem zrY:CO (ztg vE):=
 okC Tryz.f42 (memC pI (memC NU (memC DU (memC zmb zF)))) (p:=1) (cuts:=[(7,⟨[7],⟨[.int .i64],[(0, .cells 62 [.own 1211]),(1211, .sl 72),(1, .row 163)]⟩,[0,1,6],[],[0,1],0,[],⟨[],[(0, .cells 62 [.own 1211]),(1211, .sl 72),(1, .row 163)]⟩,[0,1,1211]⟩)])
theorem rF:CO (zte Pp):=
 okC Tryz.f20 (memC zrY zF)
theorem J8:CO (Y1 Xy):=
 okC Tryz.f52 zF
theorem zjR:CO (zkI GL):=
 okC Tryz.f146 zF (p:=1) (cuts:=[(2,⟨[8],⟨[.int .i64],[]⟩,[0,1,7],[],[],0,[],⟨[],[]⟩,[]⟩)])
theorem zhy:CO (zhX pG):=
 okC Tryz.f98 (memC zjR zF) (p:=1)
theorem zpY:CO (zqO bK):=
 okC Tryz.f97 (memC zhy zF) (p:=2)
theorem zfP:CO (zgb Qx):=
 okC Tryz.f96 (memC zpY zF) (p:=2) (cuts:=[(2,⟨[8],⟨[.int .i64],[]⟩,[0,1,7],[],[],0,[],⟨[],[]⟩,[]⟩)])
theorem ztS:CO (p9 JE):=
 okC Tryz.f54 (memC zfP zF) (p:=1)
theorem qX:CO (zjn Zl):=
 okC Tryz.f267 zF (p:=1) (exS:=⟨[.optr 1],[(1, .row 72)]⟩)
theorem iL:CO (zhW Zw):=
 okC Tryz.f265 (memC qX zF) (p:=1) (cuts:=[(2,⟨[],⟨[],[(0, .row 310)]⟩,[0,2,3],[],[0],0,[],⟨[],[(0, .row 310)]⟩,[0]⟩)])
theorem TL:CO (zjj Z9):=
 okC Tryz.f268 (memC qX zF) (p:=1)
theorem zi9:CO (zjk Qf):=
 okC Tryz.f266 (memC TL (memC iL zF)) (p:=1) (cuts:=[(2,⟨[4],⟨[.int .i64],[(0, .row 310)]⟩,[0],[],[0],0,[],⟨[],[(0, .row 310)]⟩,[0]⟩)])
theorem zja:CO (zjm Q7):=
 okC Tryz.f286 zF (p:=1)
theorem MU:CO (zjl Qg):=
 okC Tryz.f270 zF (p:=1)
theorem zrT:CO (zs7 BF):=
 okC Tryz.f285 (memC iL (memC qX (memC qb (memC MU (memC TL (memC nC (memC Vr zF))))))) (joins:=[(20,⟨[],⟨[],[(0, .cells 120 [.int .u8, .str, .int .u8, .str, .bool, .int .i64, .int .i64, .bool, .nilv]),(1, .row 310),(2, .cells 120 [.int .u8, .str, .int .u8, .str, .bool, .int .i64, .int .i64, .bool, .nilv])]⟩,[2,4,5],[],[0,1,2],0,[],⟨[],[]⟩,[]⟩)]) (exS:=⟨[.optr 0, .bool],[(0, .row 120)]⟩)
theorem nT:CO (zqJ Tz):=
 okC Tryz.f303 zF (fz:=[(1,[0])])
end Go.Lv.VT
end
