/- Contracts. -/
import Derived.Test.YtagibnnojbolnaaGreatDoorTx
import Derived.Test.YtagibnnojbolnaaGreatDoorIp
import Derived.Test.YtagibnnojbolnaaGreatDoorLf
import Derived.Test.YtagibnnojbolnaaGreatDoorPa
import Derived.Test.YtagibnnojbolnaaGreatDoorCw
import Derived.Test.YtagibnnojbolnaaGreatDoorGa
noncomputable section
set_option linter.unusedSimpArgs false
set_option linter.unusedVariables false
namespace Go.Lv.VT
set_option maxRecDepth 100000
open Go.Proofs
theorem alt2 {T U V W:Type} {A B:T->Option U} {t:Option V} {c:V->Bool} {p:V->Option W} {d:W->Bool} {x:T} {y:U}
  (h:(za t fun v=>bif c v then za (A x) fun z=>some z else za (p v) fun w=>bif d w then za (A x) fun z=>some z else za (B x) fun z=>some z)=some y): ∃n:Bool,(cond n A B) x=some y:=by
 have key: ∀o:Option U,za o (fun z=>some z)=some y->o=some y:=fun o=>by cases o<;>exact id
 cases t with
 |none=>cases h
 |some v=>
  replace h:(bif c v then za (A x) fun z=>some z else za (p v) fun w=>bif d w then za (A x) fun z=>some z else za (B x) fun z=>some z)=some y:=h;cases hc:c v<;>rw[hc]at h
  ·replace h:(za (p v) fun w=>bif d w then za (A x) fun z=>some z else za (B x) fun z=>some z)=some y:=h;cases hp:p v with
   |none=>rw[hp]at h;cases h
   |some w=>
    rw[hp]at h;replace h:(bif d w then za (A x) fun z=>some z else za (B x) fun z=>some z)=some y:=h;cases hd:d w<;>rw[hd]at h
    ·exact⟨false,key _ h⟩
    ·exact⟨true,key _ h⟩
  ·exact⟨true,key _ h⟩
def K0(f:Nat)(i o:List Sh)(F:((⟨i,[]⟩:StSh).sl I).T->Option ((⟨o,[]⟩:StSh).sl I).T):Con I:=⟨f,⟨i,[]⟩,[],⟨o,[]⟩,0,F⟩
abbrev CO(c:Con I):Prop:=ZL Tryz.prog c
def zmv:=K0 114 [.str, .int .u8] [.int .i64]
def zrF:=K0 113 [.str] [.bool]
def zfP:=K0 171 [.sl 9, .clo 113 []] [.int .i64]
def zeJ:=K0 112 [.sl 9, .clo 113 []] [.bool]
def zw6:=K0 78 [.sl 9] [.bool]
def zua:=K0 77 [.sl 9] [.bool]
def zhr:=K0 111 [.sl 90, .clo 77 []] [.int .i64]
def zfl:=K0 76 [.sl 90, .clo 77 []] [.bool]
def NH:=K0 79 [.sl 118] [.int .i64]
def zt7:=K0 252 [.str, .int .i64] [.bool]
def zrB:=K0 248 [.str] [.bool]
def N9:=K0 53 [.str] [.str]
def zrE:=K0 217 [.str] [.bool]
def zrA:=K0 249 [.val 127] [.bool, .bool]
def znm:=K0 250 [.val 170, .int .u8] [.val 170, .bool]
def wZ:=K0 285 [.int .i64] [.bool]
def zBL:=K0 253 [.val 125] [.int .i64]
def znn(F:zm×zh×zJ->Option Bool):Con I:=⟨251,⟨[.val 118, .optr 0, .optr 1],[(0, .row 170),(1, .row 127)]⟩,[0,1],⟨[.bool],[]⟩,0,F⟩
def zfm(F:List zm×zh×zJ->Option Int):Con I:=⟨173,⟨[.sl 118, .clo 251 [0,1]],[(0, .row 170),(1, .row 127)]⟩,[0,1],⟨[.int .i64],[]⟩,0,F⟩
def zdV(F:List zm×zh×zJ->Option Bool):Con I:=⟨115,⟨[.sl 118, .clo 251 [0,1]],[(0, .row 170),(1, .row 127)]⟩,[0,1],⟨[.bool],[]⟩,0,F⟩
def zqr:=K0 218 [.val 127, .val 170] [.bool]
def znk:=K0 176 [.val 122, .val 170] [.bool]
def zoP(F:zQ×zh->Option Bool):Con I:=⟨175,⟨[.val 122, .optr 0],[(0, .row 170)]⟩,[0],⟨[.bool],[]⟩,0,F⟩
def zfO(F:List zQ×zh->Option Int):Con I:=⟨216,⟨[.sl 122, .clo 175 [0]],[(0, .row 170)]⟩,[0],⟨[.int .i64],[]⟩,0,F⟩
def zeI(F:List zQ×zh->Option Bool):Con I:=⟨174,⟨[.sl 122, .clo 175 [0]],[(0, .row 170)]⟩,[0],⟨[.bool],[]⟩,0,F⟩
def ZX:=K0 117 [.val 118, .val 170, .bool] [.bool]
def zoO:=K0 116 [.val 118] [.bool]
def zgC:=K0 173 [.sl 118, .clo 116 []] [.int .i64]
def ze7:=K0 115 [.sl 118, .clo 116 []] [.bool]
def gG:=K0 118 [.sl 118] [.int .i64]
def zrz:=K0 80 [.sl 118] [.int .i64]
def zw4:=K0 81 [.val 83] [.bool]
def K9:=K0 51 [.int .u8] [.int .u8]
def TE:=K0 120 [.sl 106, .int .u8] [.val 174]
def Y3:=K0 119 [.sl 106] [.int .i64]
def X3:=K0 82 [.sl 106] [.int .i64, .int .i64]
def uF(F:List zb×List zg->Option (List zg)):Con I:=⟨177,⟨[.own 0, .sl 106],[(0, .sl 102)]⟩,[],⟨[.own 1],[(1, .sl 102)]⟩,1,F⟩
def J9(F:List zb->Option (List zg)):Con I:=⟨177,⟨[.nilv, .sl 106],[]⟩,[],⟨[.own 0],[(0, .sl 102)]⟩,1,F⟩
def zBU:=K0 121 [.sl 106] [.sl 102, .int .i64]
def ziG:=K0 181 [.str, .str] [.bool]
def zmu:=K0 129 [.str, .str] [.bool]
def U4:=K0 122 [.str] [.bool]
def zhQ:=K0 286 [.str, .str] [.str]
def zlq:=K0 254 [.str, .str] [.str]
def M4:=K0 255 [.int .u8] [.bool]
def ztM:=K0 219 [.str] [.bool]
def P9:=K0 256 [.int .u8] [.bool]
def K4:=K0 220 [.int .u8] [.bool]
def zno:=K0 221 [.str, .str] [.bool]
def zBR:=K0 178 [.val 102] [.bool]
def ztN(F:(Int×Int)×List zg->Option Bool):Con I:=⟨222,⟨[.int .i64, .int .u8, .optr 0],[(0, .row 68)]⟩,[0],⟨[.bool],[]⟩,0,F⟩
def O9:=K0 195 [.str, .str] [.bool]
def J4:=K0 179 [.sl 102] [.int .i64]
def O4:=K0 123 [.sl 102] [.int .i64]
def zFI:=K0 127 [.val 106, .int .u8] [.bool]
def zqm:=K0 180 [.val 106] [.bool]
def zhP:=K0 91 [.sl 106, .clo 180 []] [.int .i64]
def zfN:=K0 125 [.sl 106, .clo 180 []] [.bool]
def Vr:=K0 124 [.sl 106] [.bool]
def zBP:=K0 128 [.val 106] [.bool]
def ztL:=K0 126 [.val 106] [.bool]
def zgD:=K0 91 [.sl 106, .clo 126 []] [.int .i64]
def ze8:=K0 125 [.sl 106, .clo 126 []] [.bool]
def sZ:=K0 83 [.val 80] [.int .i64]
def tF:=K0 84 [.val 83] [.int .i64]
def zBN:=K0 133 [.val 83] [.bool]
def zj5:=K0 280 [.sl 9, .str] [.int .i64]
def zhO:=K0 241 [.sl 9, .str] [.bool]
def T9:=K0 204 [.str] [.bool]
def R9:=K0 257 [.sl 2] [.int .i64]
def S9:=K0 223 [.int .i64] [.int .i64]
def tZ:=K0 183 [.val 83] [.bool]
def uZ:=K0 184 [.val 83] [.bool]
def zBM:=K0 132 [.val 83] [.bool]
def zml:=K0 131 [.val 83] [.bool]
def ziD:=K0 182 [.sl 83, .clo 131 []] [.int .i64]
def zgB:=K0 130 [.sl 83, .clo 131 []] [.bool]
def zoL:=K0 85 [.val 83] [.int .i64]
def TF:=K0 86 [.val 83] [.int .i64]
def zBO:=K0 185 [.val 83] [.bool]
def UE(F:zu×Int->Option ((Int×Bool)×Int)):Con I:=⟨134,⟨[.val 83, .optr 0],[(0, .row 3)]⟩,[],⟨[.int .i64, .bool],[(0, .row 3)]⟩,0,F⟩
def zln:=K0 87 [.val 83] [.int .i64]
def UF:=K0 47 [.sl 86] [.val 98]
def zw3:=K0 33 [.sl 86] [.int .i64]
def zw2:=K0 24 [.val 35] [.int .i64]
def zw9:=K0 15 [.val 24] [.int .i64]
def zhR(F:ze->Option ze):Con I:=⟨89,⟨[.optr 0],[(0, .row 151)]⟩,[],⟨[],[(0, .row 151)]⟩,0,F⟩
def zlt(F:Int×ze->Option Int):Con I:=⟨138,⟨[.optr 0, .int .i64],[(0, .row 151)]⟩,[0],⟨[.int .i64],[]⟩,0,F⟩
def J8:=K0 139 [.int .i64] [.bool]
def zj7(F:ze->Option ze):Con I:=⟨140,⟨[.optr 0, .clo 139 []],[(0, .row 151)]⟩,[],⟨[],[(0, .row 151)]⟩,0,F⟩
def zfR(F:Int->Option (List UInt8)):Con I:=⟨265,⟨[.nilv, .int .i32],[]⟩,[],⟨[.own 0],[(0, .sl 5)]⟩,1,F⟩
def zmz(F:Int->Option (List UInt8)):Con I:=⟨230,⟨[.nilv, .int .i32],[]⟩,[],⟨[.own 0],[(0, .sl 5)]⟩,1,F⟩
def zuj:=K0 232 [.int .i64, .int .i64, .int .i64] [.bool]
def L8:=K0 192 [.int .i64] [.bool]
def zB5:=K0 231 [.int .i64] [.int .i64]
def zhs(F:ze->Option (ze×List UInt8)):Con I:=⟨190,⟨[.optr 0, .nilv],[(0, .row 151)]⟩,[],⟨[.own 1],[(0, .row 151),(1, .sl 5)]⟩,1,F⟩
def zfS(F:Int×List UInt8->Option (List UInt8)):Con I:=⟨265,⟨[.own 0, .int .i32],[(0, .sl 5)]⟩,[],⟨[.own 1],[(1, .sl 5)]⟩,1,F⟩
def zmA(F:Int×List UInt8->Option (List UInt8)):Con I:=⟨230,⟨[.own 0, .int .i32],[(0, .sl 5)]⟩,[],⟨[.own 1],[(1, .sl 5)]⟩,1,F⟩
def zht(F:ze×List UInt8->Option (ze×List UInt8)):Con I:=⟨190,⟨[.optr 0, .own 1],[(0, .row 151),(1, .sl 5)]⟩,[],⟨[.own 2],[(0, .row 151),(2, .sl 5)]⟩,1,F⟩
def zjJ(F:ze->Option (zg×ze)):Con I:=⟨141,⟨[.optr 0],[(0, .row 151)]⟩,[],⟨[.val 102],[(0, .row 151)]⟩,0,F⟩
def K8:=K0 191 [.int .i64] [.bool]
def zuh:=K0 142 [.int .i64] [.bool]
def zjH(F:Int×ze->Option Bool):Con I:=⟨143,⟨[.optr 0, .int .i64],[(0, .row 151)]⟩,[0],⟨[.bool],[]⟩,0,F⟩
def zlr(F:Int×ze->Option Bool):Con I:=⟨144,⟨[.optr 0, .int .i64],[(0, .row 151)]⟩,[0],⟨[.bool],[]⟩,0,F⟩
def zlu(F:ze->Option (Str×ze)):Con I:=⟨145,⟨[.optr 0],[(0, .row 151)]⟩,[],⟨[.str],[(0, .row 151)]⟩,0,F⟩
def zjI(F:ze->Option Bool):Con I:=⟨146,⟨[.optr 0],[(0, .row 151)]⟩,[0],⟨[.bool],[]⟩,0,F⟩
def ziJ(F:ze->Option ze):Con I:=⟨140,⟨[.optr 0, .clo 192 []],[(0, .row 151)]⟩,[],⟨[],[(0, .row 151)]⟩,0,F⟩
def ziH(F:ze->Option (Bool×ze)):Con I:=⟨193,⟨[.optr 0],[(0, .row 151)]⟩,[],⟨[.bool],[(0, .row 151)]⟩,0,F⟩
def zmy:=K0 194 [.str] [.int .i64]
def ziI(F:ze->Option (zg×ze)):Con I:=⟨147,⟨[.optr 0],[(0, .row 151)]⟩,[],⟨[.val 102],[(0, .row 151)]⟩,0,F⟩
def zmw(F:ze->Option (zg×ze)):Con I:=⟨236,⟨[.optr 0],[(0, .row 151)]⟩,[],⟨[.val 102],[(0, .row 151)]⟩,0,F⟩
def zmx(F:ze->Option (zg×ze)):Con I:=⟨196,⟨[.optr 0],[(0, .row 151)]⟩,[],⟨[.val 102],[(0, .row 151)]⟩,0,F⟩
def zj6(F:ze->Option (zg×ze)):Con I:=⟨148,⟨[.optr 0],[(0, .row 151)]⟩,[],⟨[.val 102],[(0, .row 151)]⟩,0,F⟩
def zls(F:ze->Option (zg×ze)):Con I:=⟨90,⟨[.optr 0],[(0, .row 151)]⟩,[],⟨[.val 102],[(0, .row 151)]⟩,0,F⟩
def znp(F:(zg×Int×Int)×List zg->Option (List zg)):Con I:=⟨49,⟨[.val 102, .int .i64, .int .i64, .optr 0],[(0, .cells 68 [.own 1]),(1, .sl 102)]⟩,[],⟨[],[(0, .cells 68 [.own 2]),(2, .sl 102)]⟩,1,F⟩
def zui(F:Str->Option (Int×List zg)):Con I:=⟨48,⟨[.str, .clo 49 [0]],[(0, .cells 68 [.nilv])]⟩,[],⟨[.int .i64],[(0, .cells 68 [.own 1]),(1, .sl 102)]⟩,1,F⟩
def zug:=K0 34 [.str] [.sl 102, .int .i64]
def X0:=K0 52 [.sl 106] [.int .u8]
def zlp(F:Int×List UInt8->Option Int):Con I:=⟨149,⟨[.own 0, .int .u8],[(0, .sl 5)]⟩,[0],⟨[.int .i64],[]⟩,0,F⟩
def ziC(F:Int×List UInt8->Option Bool):Con I:=⟨93,⟨[.own 0, .int .u8],[(0, .sl 5)]⟩,[0],⟨[.bool],[]⟩,0,F⟩
def zrH(F:zb×List UInt8->Option Bool):Con I:=⟨92,⟨[.val 106, .optr 0],[(0, .cells 109 [.own 1]),(1, .sl 5)]⟩,[0,1],⟨[.bool],[]⟩,0,F⟩
def zgE(F:List zb×List UInt8->Option Int):Con I:=⟨91,⟨[.sl 106, .clo 92 [0]],[(0, .cells 109 [.own 1]),(1, .sl 5)]⟩,[0,1],⟨[.int .i64],[]⟩,0,F⟩
def zw8(F:List zb×List UInt8->Option (List zb×List zb)):Con I:=⟨54,⟨[.sl 106, .own 0],[(0, .sl 5)]⟩,[0],⟨[.sl 106, .sl 106],[]⟩,0,F⟩
def zj3(F:Int×zw->Option zg):Con I:=⟨276,⟨[.optr 0, .int .i64],[(0, .row 311)]⟩,[0],⟨[.val 102],[]⟩,0,F⟩
def ziB(F:zw->Option (Bool×zw)):Con I:=⟨274,⟨[.optr 0],[(0, .row 311)]⟩,[],⟨[.bool],[(0, .row 311)]⟩,0,F⟩
def zjZ(F:Str×zw->Option (Bool×zw)):Con I:=⟨277,⟨[.optr 0, .str],[(0, .row 311)]⟩,[],⟨[.bool],[(0, .row 311)]⟩,0,F⟩
def zj0(F:zw->Option (Int×zw)):Con I:=⟨275,⟨[.optr 0],[(0, .row 311)]⟩,[],⟨[.int .u8],[(0, .row 311)]⟩,0,F⟩
def zj2(F:Int×zw->Option (List zb)):Con I:=⟨297,⟨[.optr 0, .int .i64],[(0, .row 311)]⟩,[0],⟨[.sl 106],[]⟩,0,F⟩
def zj1(F:zw->Option Bool):Con I:=⟨279,⟨[.optr 0],[(0, .row 311)]⟩,[0],⟨[.bool],[]⟩,0,F⟩
def zt5:=K0 296 [.sl 106] [.val 127, .bool]
def zrC:=K0 323 [] [.sl 9]
def zt6:=K0 298 [.str] [.val 127, .bool]
def zrD:=K0 338 [.val 106] [.bool]
def zgF:=K0 91 [.sl 106, .clo 338 []] [.int .i64]
def zmk(F:Za->Option Za):Con I:=⟨346,⟨[.optr 0],[(0, .row 376)]⟩,[],⟨[],[(0, .row 376)]⟩,0,F⟩
def zoK(F:Int×Za->Option ((zg×Bool)×Za)):Con I:=⟨349,⟨[.optr 0, .int .u8],[(0, .row 376)]⟩,[],⟨[.val 102, .bool],[(0, .row 376)]⟩,0,F⟩
def zne(F:Za->Option ((Int×Bool)×Za)):Con I:=⟨348,⟨[.optr 0],[(0, .row 376)]⟩,[],⟨[.int .i64, .bool],[(0, .row 376)]⟩,0,F⟩
def ziF:=K0 353 [.str, .str] [.str, .bool]
def zmt:=K0 350 [.str, .str] [.str, .bool]
def zoJ(F:Za->Option (Int×Za)):Con I:=⟨352,⟨[.optr 0],[(0, .row 376)]⟩,[],⟨[.int .i64],[(0, .row 376)]⟩,0,F⟩
def zmj(F:Str×Za->Option ((Int×Bool)×Za)):Con I:=⟨351,⟨[.optr 0, .str],[(0, .row 376)]⟩,[],⟨[.int .i64, .bool],[(0, .row 376)]⟩,0,F⟩
def zoI(F:Za->Option ((VAnb×Bool)×Za)):Con I:=⟨347,⟨[.optr 0],[(0, .row 376)]⟩,[],⟨[.val 125, .bool],[(0, .row 376)]⟩,0,F⟩
def zIZ:=K0 339 [.sl 102] [.val 125, .int .i64]
def zw1:=K0 324 [.val 127, .sl 106, .val 170] [.val 127, .bool]
def znl:=K0 299 [.str, .sl 106, .val 170] [.val 127, .bool]
def zhN(F:zh×zw->Option ((List zJ×Bool)×zw)):Con I:=⟨278,⟨[.optr 0, .val 170],[(0, .row 311)]⟩,[],⟨[.sl 127, .bool],[(0, .row 311)]⟩,0,F⟩
def zmr:=K0 237 [.sl 106, .val 170, .bool] [.val 118, .bool]
def Qy:=K0 197 [.sl 106, .val 170, .bool, .bool] [.sl 118, .bool]
def I1:=K0 150 [.sl 106] [.sl 118, .int .i64]
def nT(F:List zb->Option (List zb)):Con I:=⟨240,⟨[.sl 106],[]⟩,[],⟨[.own 0],[(0, .sl 106)]⟩,1,F⟩
def YE:=K0 199 [.sl 106] [.sl 106]
def V3:=K0 152 [.sl 106, .int .u8] [.sl 71, .int .i64]
def zBQ:=K0 239 [.sl 106] [.sl 106]
def R4:=K0 238 [.sl 106] [.sl 106]
def L9(F:Int×List zb->Option Bool):Con I:=⟨200,⟨[.int .i64, .optr 0],[(0, .row 71)]⟩,[0],⟨[.bool],[]⟩,0,F⟩
def zBV:=K0 153 [.sl 106] [.sl 106, .int .i64]
def zEw:=K0 198 [.sl 106] [.val 80, .bool]
def zFH:=K0 151 [.sl 106] [.sl 80, .int .i64]
def zw7:=K0 94 [.sl 106, .sl 106] [.val 86, .bool]
def zfQ(F:List Str->Option Int):Con I:=⟨171,⟨[.own 0, .clo 113 []],[(0, .sl 9)]⟩,[0],⟨[.int .i64],[]⟩,0,F⟩
def zeK(F:List Str->Option Bool):Con I:=⟨112,⟨[.own 0, .clo 113 []],[(0, .sl 9)]⟩,[0],⟨[.bool],[]⟩,0,F⟩
def zrG(F:List Str->Option Bool):Con I:=⟨78,⟨[.own 0],[(0, .sl 9)]⟩,[0],⟨[.bool],[]⟩,0,F⟩
def U0:=K0 154 [.sl 106] [.sl 9, .bool]
def zw5:=K0 95 [.sl 106, .bool] [.val 86, .bool]
def znf(F:zx->Option Int):Con I:=⟨201,⟨[.optr 0],[(0, .row 205)]⟩,[0],⟨[.int .u8],[]⟩,0,F⟩
def zng(F:zx->Option (zb×zx)):Con I:=⟨202,⟨[.optr 0],[(0, .row 205)]⟩,[],⟨[.val 106],[(0, .row 205)]⟩,0,F⟩
def zlo(F:zx->Option (Bool×zx)):Con I:=⟨155,⟨[.optr 0],[(0, .row 205)]⟩,[],⟨[.bool],[(0, .row 205)]⟩,0,F⟩
def zni(F:List Str×zx->Option (Str×zx)):Con I:=⟨203,⟨[.optr 0, .sl 9],[(0, .row 205)]⟩,[],⟨[.str],[(0, .row 205)]⟩,0,F⟩
def zjY(F:zx->Option ((zu×Bool)×zx)):Con I:=⟨205,⟨[.optr 0],[(0, .row 205)]⟩,[],⟨[.val 83, .bool],[(0, .row 205)]⟩,0,F⟩
def zmm(F:zx->Option ((zu×Bool)×zx)):Con I:=⟨156,⟨[.optr 0],[(0, .row 205)]⟩,[],⟨[.val 83, .bool],[(0, .row 205)]⟩,0,F⟩
def vZ:=K0 96 [.sl 106] [.val 83, .int .i64]
def zEv:=K0 242 [.sl 106] [.val 80, .bool, .int .i64]
def znh(F:zx->Option ((zu×Bool)×zx)):Con I:=⟨206,⟨[.optr 0],[(0, .row 205)]⟩,[],⟨[.val 83, .bool],[(0, .row 205)]⟩,0,F⟩
def vz(F:zx->Option ((zu×Bool)×zx)):Con I:=⟨157,⟨[.optr 0],[(0, .row 205)]⟩,[],⟨[.val 83, .bool],[(0, .row 205)]⟩,0,F⟩
def zru:=K0 97 [.sl 106] [.val 83, .int .i64]
def zj4(F:(Bool×Str×List zb)×zt->Option ((zN×Bool)×zt)):Con I:=⟨55,⟨[.optr 0, .bool, .str, .sl 106, .nilp],[(0, .row 75)]⟩,[],⟨[.val 86, .bool],[(0, .row 75)]⟩,0,F⟩
def zms(F:(Bool×Str×List zb×zb)×zt->Option ((zN×Bool)×zt)):Con I:=⟨55,⟨[.optr 0, .bool, .str, .sl 106, .ptr 106],[(0, .row 75)]⟩,[],⟨[.val 86, .bool],[(0, .row 75)]⟩,0,F⟩
def QO(F:(List zb×Bool)×zt->Option (List zN×zt)):Con I:=⟨36,⟨[.optr 0, .sl 106, .bool],[(0, .row 75)]⟩,[],⟨[.sl 86],[(0, .row 75)]⟩,0,F⟩
def O0:=K0 25 [.str] [.sl 86, .nilp, .int .i64]
def Y0:=K0 16 [.str] [.val 35, .int .i64]
def zue(F:Str->Option ((List zN×Int)×zt)):Con I:=⟨25,⟨[.str],[]⟩,[],⟨[.sl 86, .optr 0, .int .i64],[(0, .row 75)]⟩,1,F⟩
def zt8:=K0 16 [.str] [.val 35, .int .i64]
def zt9:=K0 16 [.str] [.val 35, .int .i64]
def lT(F:List UInt8->Option (List UInt8)):Con I:=⟨56,⟨[.sl 5],[]⟩,[],⟨[.own 0],[(0, .sl 5)]⟩,1,F⟩
def yT(F:List zJ->Option (List zJ)):Con I:=⟨57,⟨[.sl 127],[]⟩,[],⟨[.own 0],[(0, .sl 127)]⟩,1,F⟩
def gH:=K0 37 [.sl 118] [.sl 118]
def OH:=K0 58 [.sl 106] [.sl 106]
def zoQ:=K0 38 [.sl 80] [.sl 80]
def MH:=K0 39 [.val 83] [.val 83]
def wT(F:List Str->Option (List Str)):Con I:=⟨40,⟨[.sl 9],[]⟩,[],⟨[.own 0],[(0, .sl 9)]⟩,1,F⟩
def SH:=K0 26 [.sl 86] [.sl 86]
def V4:=K0 17 [.val 24] [.val 24]
def zB3:=K0 7 [.val 24, .int .u8, .str, .str] [.val 24, .int .i64, .int .i64]
def I4:=K0 11 [] [.val 24, .bool]
def X4(F:qE×Int->Option Bool):Con I:=⟨28,⟨[.val 37, .optr 0],[(0, .row 3)]⟩,[0],⟨[.bool],[]⟩,0,F⟩
def ziE(F:List qE×Int->Option Int):Con I:=⟨27,⟨[.sl 37, .clo 28 [0]],[(0, .row 3)]⟩,[0],⟨[.int .i64],[]⟩,0,F⟩
def zEz:=K0 18 [.val 24, .int .i64] [.int .i64, .int .i64]
def zuf(F:ZJ->Option (Int×List qE)):Con I:=⟨17,⟨[.val 24],[]⟩,[],⟨[.agi 0 .i64],[(0, .sl 37)]⟩,1,F⟩
def Y4:=K0 8 [.val 24, .int .i64] [.val 24, .int .i64]
def zB4:=K0 9 [.val 24, .int .i64] [.val 37, .int .i64]
def zrv:=K0 12 [.val 24, .sl 3] [.bool]
def M9:=K0 4 [] [.bool]
def eF:=K0 63 [.sl 118, .int .i64] [.int .i64]
def zwM:=K0 42 [.sl 118] [.bool]
def fF:=K0 64 [.sl 106, .int .i64] [.int .i64]
def ztV:=K0 100 [.int .u8] [.int .u8]
def iF:=K0 65 [.sl 106] [.int .i64]
def zwG:=K0 43 [.sl 80] [.bool]
def YF:=K0 66 [.val 83, .int .i64] [.int .i64]
def XF:=K0 67 [.val 83] [.bool]
def p9:=K0 44 [.val 83] [.bool]
def iG:=K0 30 [.sl 86, .int .i64] [.bool]
def SG:=K0 31 [.sl 86] [.int .i64]
def X9:=K0 21 [.sl 86] [.bool]
def zw0:=K0 13 [.val 24] [.bool]
def U1:=K0 22 [.str] [.bool]
def r9:=K0 170 [.str, .int .i64] [.bool]
def zwN:=K0 109 [.str] [.bool]
def G9:=K0 209 [.int .u8] [.int .u8]
def H9:=K0 161 [.str] [.str]
def zwP:=K0 243 [.str] [.bool]
def ztY:=K0 207 [.val 127] [.val 255]
def zwJ:=K0 281 [.val 125] [.bool]
def zwQ:=K0 300 [.val 212, .int .u8] [.val 212, .bool]
def ztZ:=K0 282 [.sl 118, .val 212, .int .u8] [.bool]
def zt0:=K0 244 [.val 127, .val 212] [.bool]
def zqo:=K0 208 [.val 122, .val 212] [.bool]
def Lr:=K0 160 [.val 118, .val 212, .bool] [.bool]
def U2:=K0 101 [.sl 118] [.bool]
def TG:=K0 102 [.sl 118] [.int .i64]
def zwK:=K0 68 [.sl 118] [.int .i64]
def gF:=K0 159 [.sl 106, .sl 106] [.bool]
def zwI:=K0 99 [.val 80, .val 80] [.bool]
def aF:=K0 61 [.val 83, .val 83] [.bool]
def J2:=K0 69 [.val 83] [.bool]
def zwH:=K0 103 [.str] [.bool]
def VG:=K0 164 [.sl 106] [.sl 102]
def UG:=K0 210 [.sl 106, .int .u8] [.bool]
def zwE:=K0 162 [.sl 106] [.int .i64]
def zwD:=K0 245 [.str] [.bool]
def F9:=K0 283 [.int .u8] [.bool]
def K3:=K0 246 [.str] [.bool]
def zwA:=K0 301 [.int .u8] [.bool]
def zEx:=K0 325 [.str, .int .i64] [.int .u8]
def ztU:=K0 302 [.str, .int .i64] [.int .i64]
def R3:=K0 340 [] [.str]
def zBX:=K0 341 [.int .u8] [.int .i64]
def U3:=K0 342 [.int .i64] [.str]
def zrw:=K0 326 [.str, .int .i64] [.str, .int .i64]
def ztT:=K0 303 [.str, .int .i64] [.val 102, .int .i64]
def ztR:=K0 327 [.int .u8] [.bool]
def ztP:=K0 304 [.int .u8] [.bool]
def ztO:=K0 305 [.str, .int .i64] [.bool]
def E9:=K0 306 [.str, .int .i64] [.str, .int .i64]
def ztQ:=K0 307 [.str, .int .i64] [.bool]
def zqn:=K0 308 [.str, .int .i64] [.bool]
def ztS:=K0 343 [.str, .int .i64] [.int .i64]
def zoM:=K0 328 [.str, .int .i64] [.int .i64, .bool]
def zmn:=K0 329 [.str] [.int .i64]
def zrx:=K0 309 [.str, .int .i64] [.val 102, .int .i64]
def zB0:=K0 310 [.str, .int .i64, .str] [.bool]
def I9:=K0 212 [.str, .str] [.bool]
def zBZ:=K0 344 [.str, .int .i64] [.val 102, .int .i64]
def zmo:=K0 345 [.int .u8] [.bool]
def zB1:=K0 330 [.str, .int .i64] [.val 102, .int .i64]
def M3:=K0 311 [.str, .int .i64] [.val 102, .int .i64]
def O3:=K0 312 [.int .u8] [.int .u8]
def zBY:=K0 284 [.str, .int .i64] [.val 102, .int .i64]
def zwC:=K0 247 [.int .u8] [.bool]
def J3:=K0 211 [.val 102] [.bool]
def zwB:=K0 163 [.sl 102] [.int .i64]
def jG:=K0 165 [.sl 106] [.bool]
def zry:=K0 166 [.sl 106] [.sl 106]
def ztW:=K0 167 [.str] [.bool]
def ztX:=K0 104 [.str, .sl 106] [.bool]
def zwF:=K0 70 [.val 80] [.int .i64]
def l9:=K0 168 [.val 80] [.bool]
def zt2:=K0 105 [.val 83] [.bool]
def zt3:=K0 213 [.str] [.bool]
def zEy:=K0 214 [.int .i64] [.bool]
def zB2:=K0 169 [.val 83] [.bool, .bool]
def d9:=K0 106 [.val 83] [.bool]
def zt1:=K0 71 [.val 83] [.bool]
def bF:=K0 107 [.val 83] [.int .i64]
def TH:=K0 108 [.val 83] [.bool]
def znj:=K0 72 [.val 83] [.bool]
def zt4:=K0 73 [.sl 9] [.bool]
def RG:=K0 45 [.val 86] [.bool]
def zwL:=K0 110 [.val 127] [.bool]
def sG:=K0 74 [.sl 118] [.int .i64]
def zmq:=K0 75 [.val 86] [.int .i64]
def VF:=K0 46 [.sl 86] [.int .i64]
def V9:=K0 32 [.sl 86] [.bool]
def Y9:=K0 23 [.val 35] [.int .i64]
def U9:=K0 14 [.val 24] [.int .i64]
def zBT:=K0 5 [.val 24] [.bool]
def Y1:=K0 6 [.str] [.bool]
def zmp:=K0 158 [.sl 127, .sl 127] [.bool]
def zwO:=K0 98 [.val 118, .val 118] [.bool]
def Rv:=K0 59 [.sl 118, .sl 118] [.bool]
def Y2:=K0 60 [.sl 80, .sl 80] [.bool]
def zoN:=K0 62 [.sl 90, .sl 90] [.bool]
def W9:=K0 41 [.val 86, .val 86] [.bool]
def Iz:=K0 29 [.sl 86, .sl 86] [.bool]
def zqp:=K0 20 [.val 37, .val 37] [.bool]
def zqq:=K0 10 [.sl 37, .sl 37] [.bool]
def YT:=K0 3 [.val 24, .int .u8, .str, .str] [.bool]
def zjG:=K0 40 [.sl 9] [.sl 9]
def zI0:=K0 88 [.str] [.str, .int .i64]
theorem zHw:ZL Tryz.prog (zI0 yn):=zGx
def zFJ:=K0 172 [.str, .int .u8] [.int .i64]
theorem zE7:ZL Tryz.prog (zFJ xB):=zEN
def zI1:=K0 137 [.str, .str] [.int .i64]
theorem eD:ZL Tryz.prog (zI1 Vm):=zGy
def zI3:=K0 233 [.str, .str] [.str]
theorem zHy:ZL Tryz.prog (zI3 Un):=zGA
def zBS:=K0 234 [.str, .str] [.int .i64]
theorem zA2:ZL Tryz.prog (zBS Wo):=zAy
def zNn:=K0 235 [.str, .str] [.str, .str, .bool]
theorem zMv:ZL Tryz.prog (zNn cutF):=zLX
def zI2:=K0 35 [.sl 102] [.sl 106, .int .i64]
theorem rZ:ZL Tryz.prog (zI2 parseF):=zGz
def zLt:=K0 354 [.str, .str] [.str]
theorem zJ5:ZL Tryz.prog (zLt trimF):=zJD
def zFK:=K0 355 [.str, .int .i64, .int .i64] [.int .i64, .ifb]
theorem zE8:ZL Tryz.prog (zFK jw):=zEO
def zNo(F:(Int×Int)×List qE->Option (List qE)):Con I:=⟨19,⟨[.own 0, .int .i64, .int .i64],[(0, .sl 37)]⟩,[],⟨[.own 1],[(1, .sl 37)]⟩,1,F⟩
theorem zMw:ZL Tryz.prog (zNo delK):=zLY
variable [Fu]
theorem okC{con:Con I}{S:List (Con I)}(f:Go.Func)(hS: ∀c∈S,ZL Tryz.prog c)(fz:List (Nat×List Nat):=[])(pre:List (Nat×List (Nat×Option Nat)):=[])(p:Nat:=0)(cuts:List (Nat×Cut):=[])(joins:List (Nat×Cut):=[])(cls:List (Nat×List Nat):=[])(fl:Option Nat:=Fu.n)(exS:StSh:=con.outS)(hf:Tryz.prog.funcs[con.f]? =some f:=by kernel_rfl)(h:chk con (⟨S,fz,pre,p,cuts,joins,cls,fl⟩:Env0 I) f=true:=by kernel_rfl)(he: ∀x,evF2 (⟨S,fz,pre,p,cuts,joins,cls,fl⟩:Env0 I) T FK f.ntmps (rsl f) (body f) con exS x=con.F x:=by intro x;kernel_rfl):ZL Tryz.prog con:=
 okC0 mixed ipOK tok rfl rfl hS hf h he
theorem recC(c:Con I)(B:((c.inS.sl I).T->Option (c.outS.sl I).T)->(c.inS.sl I).T->Option (c.outS.sl I).T)(hB: ∀S,ZL Tryz.prog (⟨c.f,c.inS,c.cst,c.outS,c.k,S⟩:Con I)->ZL Tryz.prog (⟨c.f,c.inS,c.cst,c.outS,c.k,B S⟩:Con I))(hwf:Bj (⟨c.f,c.inS,c.cst,c.outS,c.k,fun _=>Option.none⟩:Con I)=true:=by kernel_rfl):ZL Tryz.prog (⟨c.f,c.inS,c.cst,c.outS,c.k,Lv.recE B⟩:Con I):=ZL.recE B hwf hB
theorem qZ:CO (zmv strings_IndexByte):=
 okC Tryz.f114 (memC zE7 zA)
theorem xS:CO (zrF Sz):=
 okC Tryz.f113 (memC qZ zA)
theorem zfw:CO (zfP Qw):=
 okC Tryz.f171 (memC xS zA) (cuts:=[(2,⟨[8],⟨[.int .i64],[]⟩,[0,1,7],[],[],0,[],⟨[],[]⟩,[]⟩)])
theorem zd8:CO (zeJ qK):=
 okC Tryz.f112 (memC zfw zA)
theorem zuX:CO (zw6 JE):=
 okC Tryz.f78 (memC zd8 zA)
theorem zsW:CO (zua xE):=
 okC Tryz.f77 (memC zuX zA)
theorem zgI:CO (zhr oL):=
 okC Tryz.f111 (memC zsW zA) (cuts:=[(2,⟨[8],⟨[.int .i64],[]⟩,[0,1,7],[],[],0,[],⟨[],[]⟩,[]⟩)])
theorem ze9:CO (zfl Qe):=
 okC Tryz.f76 (memC zgI zA)
theorem zpI(Qv:List zm->Option Int)(hs:CO (NH Qv)):CO (NH (BH Qv)):=
 okC Tryz.f79 (memC hs zA) (cuts:=[(3,⟨[3,14],⟨[.int .i64, .int .i64],[]⟩,[2,12,13],[],[],0,[3],⟨[.int .i64],[]⟩,[]⟩),(6,⟨[3,21],⟨[.int .i64, .int .i64],[]⟩,[14,19,20],[],[],2,[3],⟨[.int .i64],[]⟩,[]⟩),(9,⟨[3,28],⟨[.int .i64, .int .i64],[]⟩,[21,26,27],[],[],4,[3],⟨[.int .i64],[]⟩,[]⟩)]) (joins:=[(15,⟨[3,28],⟨[.int .i64, .int .i64],[]⟩,[],[],[],0,[],⟨[],[]⟩,[]⟩)])
theorem zps:CO (NH Qv):=recC (NH Qv) (BH) (fun S h=>zpI S h)
theorem aS:CO (zt7 xu):=
 okC Tryz.f252 (memC qZ zA)
theorem NT:CO (zrB Sv):=
 okC Tryz.f248 (memC aS zA)
theorem qc:CO (N9 ZP):=
 okC Tryz.f53 zA (cuts:=[(3,⟨[10],⟨[.int .i64],[(0, .sl 5)]⟩,[2,3,8,9],[],[0],0,[],⟨[],[(0, .sl 5)]⟩,[0]⟩)]) (joins:=[(7,⟨[10],⟨[.int .i64],[(0, .sl 5)]⟩,[],[],[0],0,[],⟨[],[]⟩,[]⟩)])
theorem DT:CO (zrE Jv):=
 okC Tryz.f217 (memC NT (memC qc zA))
theorem zqJ:CO (zrA yF):=
 okC Tryz.f249 zA (joins:=[(4,⟨[6],⟨[.bool],[]⟩,[1,5],[0],[],0,[],⟨[],[]⟩,[]⟩),(7,⟨[11],⟨[.bool],[]⟩,[],[],[],0,[],⟨[],[]⟩,[]⟩),(10,⟨[14],⟨[.bool],[]⟩,[],[],[],0,[],⟨[],[]⟩,[]⟩)])
theorem gL:CO (znm QM):=
 okC Tryz.f250 zA (exS:=⟨[.optr 0, .bool],[(0, .row 170)]⟩)
theorem C9:CO (wZ EE):=
 okC Tryz.f285 zA
theorem vQ:CO (zBL Vu):=
 okC Tryz.f253 (memC C9 zA)
theorem zmP(zB:zm×zh×Bool->Option Bool)(h_seltext_whole:CO (ZX zB)):CO (znn (XL zB)):=
 okC Tryz.f251 (memC h_seltext_whole zA) (p:=2)
theorem zfa(zB:zm×zh×Bool->Option Bool)(h_seltext_whole:CO (ZX zB)):CO (zfm (wL zB)):=
 okC Tryz.f173 (memC (zmP zB h_seltext_whole) zA) (p:=2) (cuts:=[(2,⟨[8],⟨[.int .i64],[]⟩,[0,1,7],[],[],0,[],⟨[],[]⟩,[]⟩)])
theorem zdR(zB:zm×zh×Bool->Option Bool)(h_seltext_whole:CO (ZX zB)):CO (zdV (qC zB)):=
 okC Tryz.f115 (memC (zfa zB h_seltext_whole) zA) (p:=2)
theorem zpr(zB:zm×zh×Bool->Option Bool)(h_seltext_whole:CO (ZX zB)):CO (zqr (Xz zB)):=
 okC Tryz.f218 (memC zqJ (memC gL (memC (zdR zB h_seltext_whole) (memC NT (memC DT (memC aS (memC vQ zA))))))) (joins:=[(8,⟨[],⟨[],[]⟩,[2],[0],[],0,[],⟨[],[]⟩,[]⟩),(15,⟨[89],⟨[.bool],[]⟩,[10,88],[],[],0,[],⟨[],[]⟩,[]⟩)])
theorem bT(zB:zm×zh×Bool->Option Bool)(h_seltext_whole:CO (ZX zB)):CO (znk (Tv zB)):=
 okC Tryz.f176 (memC DT (memC (zpr zB h_seltext_whole) zA)) (cuts:=[(4,⟨[30],⟨[.int .i64],[]⟩,[2,3,28,29],[0,1],[],0,[],⟨[],[]⟩,[]⟩)])
theorem zod(zB:zm×zh×Bool->Option Bool)(h_seltext_whole:CO (ZX zB)):CO (zoP (RL zB)):=
 okC Tryz.f175 (memC (bT zB h_seltext_whole) zA) (p:=1)
theorem zfv(zB:zm×zh×Bool->Option Bool)(h_seltext_whole:CO (ZX zB)):CO (zfO (IM zB)):=
 okC Tryz.f216 (memC (zod zB h_seltext_whole) zA) (p:=1) (cuts:=[(2,⟨[8],⟨[.int .i64],[]⟩,[0,1,7],[],[],0,[],⟨[],[]⟩,[]⟩)])
theorem zd7(zB:zm×zh×Bool->Option Bool)(h_seltext_whole:CO (ZX zB)):CO (zeI (qJ zB)):=
 okC Tryz.f174 (memC (zfv zB h_seltext_whole) zA) (p:=1)
theorem zqW(zB:zm×zh×Bool->Option Bool)(hs:CO (ZX zB)):CO (ZX (lG zB)):=
 okC Tryz.f117 (memC (zd7 zB hs) zA) (cuts:=[(4,⟨[38],⟨[.int .i64],[]⟩,[3,4,36,37],[0,1],[],0,[],⟨[],[]⟩,[]⟩)])
theorem yS:CO (ZX zB):=recC (ZX zB) (lG) (fun S h=>zqW S h)
theorem zoc:CO (zoO TL):=
 okC Tryz.f116 (memC yS zA)
theorem zgg:CO (zgC LM):=
 okC Tryz.f173 (memC zoc zA) (cuts:=[(2,⟨[8],⟨[.int .i64],[]⟩,[0,1,7],[],[],0,[],⟨[],[]⟩,[]⟩)])
theorem zeT:CO (ze7 qU):=
 okC Tryz.f115 (memC zgg zA)
theorem zqU(Qu:List zm->Option Int)(hs:CO (gG Qu)):CO (gG (mG Qu)):=
 okC Tryz.f118 (memC hs zA) (cuts:=[(3,⟨[3,14],⟨[.int .i64, .int .i64],[]⟩,[2,12,13],[],[],0,[3],⟨[.int .i64],[]⟩,[]⟩),(6,⟨[3,21],⟨[.int .i64, .int .i64],[]⟩,[14,19,20],[],[],2,[3],⟨[.int .i64],[]⟩,[]⟩),(9,⟨[3,28],⟨[.int .i64, .int .i64],[]⟩,[21,26,27],[],[],4,[3],⟨[.int .i64],[]⟩,[]⟩)])
theorem OT:CO (gG Qu):=recC (gG Qu) (mG) (fun S h=>zqU S h)
theorem zqI:CO (zrz BG):=
 okC Tryz.f80 (memC zeT (memC OT zA))
theorem zuW:CO (zw4 gu):=
 okC Tryz.f81 zA
theorem ML:CO (K9 Fv):=
 okC Tryz.f51 zA (joins:=[(7,⟨[6],⟨[.bool],[]⟩,[0],[],[],0,[],⟨[],[]⟩,[]⟩)])
theorem zBv(jl:List zb×Int->Option ZH)(hs:CO (TE jl)):CO (TE (WE jl)):=
 okC Tryz.f120 (memC ML (memC hs zA)) (cuts:=[(3,⟨[12],⟨[.int .i64],[(1, .row 174)]⟩,[1,4,5,10,11],[0],[1],0,[],⟨[],[(1, .row 174)]⟩,[1]⟩)]) (joins:=[(9,⟨[],⟨[],[(1, .row 174)]⟩,[7,8,12],[2],[1],0,[],⟨[],[]⟩,[]⟩),(12,⟨[12],⟨[.int .i64],[(1, .row 174)]⟩,[],[],[1],0,[],⟨[],[]⟩,[]⟩)]) (exS:=⟨[.optr 0],[(0, .row 174)]⟩)
theorem sQ:CO (TE jl):=recC (TE jl) (WE) (fun S h=>zBv S h)
theorem Jr:CO (Y3 Dm):=
 okC Tryz.f119 (memC sQ zA)
theorem FL:CO (X3 ko):=
 okC Tryz.f82 (memC Jr (memC sQ zA))
theorem zvo(Gn:List zb×List zg->Option (List zg))(hs:CO (uF Gn)):CO (uF (rF Gn)):=
 okC Tryz.f177 (memC ML (memC hs zA)) (fz:=[(4,[3]),(7,[6])]) (p:=1) (cuts:=[(2,⟨[0,10],⟨[.own 1001, .int .i64],[(1001, .sl 102)]⟩,[4,8,9],[],[],0,[0],⟨[.own 1001],[(1001, .sl 102)]⟩,[1001]⟩)]) (joins:=[(8,⟨[0,10],⟨[.own 1103, .int .i64],[(1103, .sl 102)]⟩,[],[],[],0,[],⟨[],[]⟩,[]⟩)])
theorem zux:CO (uF Gn):=recC (uF Gn) (rF) (fun S h=>zvo S h)
theorem zuw:CO (J9 XE):=
 okC Tryz.f177 (memC ML (memC zux zA)) (fz:=[(4,[3]),(7,[6])]) (cuts:=[(2,⟨[0,10],⟨[.own 1105, .int .i64],[(1105, .sl 102)]⟩,[4,8,9],[],[],0,[0],⟨[.own 1105],[(1105, .sl 102)]⟩,[1105]⟩)]) (joins:=[(8,⟨[0,10],⟨[.own 1207, .int .i64],[(1207, .sl 102)]⟩,[],[],[],0,[],⟨[],[]⟩,[]⟩)])
theorem tQ:CO (zBU Rx):=
 okC Tryz.f121 (memC Jr (memC zuw zA))
theorem yL:CO (ziG stringslite_HasPrefix):=
 okC Tryz.f181 zA
theorem qY:CO (zmu strings_HasPrefix):=
 okC Tryz.f129 (memC yL zA)
theorem l8:CO (U4 wD):=
 okC Tryz.f122 (memC qZ (memC qY (memC qc zA)))
theorem zhE:CO (zhQ stringslite_TrimPrefix):=
 okC Tryz.f286 (memC yL zA)
theorem zkx:CO (zlq strings_TrimPrefix):=
 okC Tryz.f254 (memC zhE zA)
theorem VR:CO (M4 eu):=
 okC Tryz.f255 zA
theorem zsD:CO (ztM RF):=
 okC Tryz.f219 (memC zkx (memC VR zA))
theorem zut:CO (P9 iQ):=
 okC Tryz.f256 zA
theorem V8:CO (K4 vD):=
 okC Tryz.f220 (memC zut (memC VR zA))
theorem zmQ:CO (zno strings_Contains):=
 okC Tryz.f221 (memC eD zA)
theorem zA1:CO (zBR bD):=
 okC Tryz.f178 (memC qZ (memC zsD (memC qY (memC V8 (memC zmQ zA))))) (joins:=[(8,⟨[3,4,5,6,7,25],⟨[.bool, .bool, .bool, .bool, .bool, .bool],[]⟩,[1,16],[],[],0,[],⟨[],[]⟩,[]⟩),(14,⟨[3,4,5,6,7,63],⟨[.bool, .bool, .bool, .bool, .bool, .bool],[]⟩,[],[],[],0,[],⟨[],[]⟩,[]⟩),(22,⟨[4,5,6,7,94],⟨[.bool, .bool, .bool, .bool, .bool],[]⟩,[3],[],[],0,[],⟨[],[]⟩,[]⟩),(24,⟨[3,4,5,6,7],⟨[.bool, .bool, .bool, .bool, .bool],[]⟩,[1],[0],[],0,[],⟨[],[]⟩,[]⟩)])
theorem zsE:CO (ztN Dp):=
 okC Tryz.f222 zA (p:=1)
theorem Ur:CO (O9 QI):=
 okC Tryz.f195 (memC qc zA)
theorem O6:CO (J4 uD):=
 okC Tryz.f179 (memC zsE (memC Ur zA)) (joins:=[(11,⟨[5],⟨[.int .i64],[]⟩,[3],[0],[],0,[],⟨[],[]⟩,[]⟩)])
theorem X8:CO (O4 Py):=
 okC Tryz.f123 (memC zA1 (memC O6 zA)) (cuts:=[(4,⟨[10],⟨[.int .i64],[]⟩,[0,8,9],[],[],0,[],⟨[],[]⟩,[]⟩)])
theorem tq:CO (zFI QH):=
 okC Tryz.f127 zA
theorem zpl(Zr:List zb->Option Bool)(h_decl_closers:CO (Vr Zr)):CO (zqm (dz Zr)):=
 okC Tryz.f180 (memC tq (memC h_decl_closers zA))
theorem zhD(Zr:List zb->Option Bool)(h_decl_closers:CO (Vr Zr)):CO (zhP (jL Zr)):=
 okC Tryz.f91 (memC (zpl Zr h_decl_closers) zA) (cuts:=[(2,⟨[8],⟨[.int .i64],[]⟩,[0,1,7],[],[],0,[],⟨[],[]⟩,[]⟩)])
theorem zfu(Zr:List zb->Option Bool)(h_decl_closers:CO (Vr Zr)):CO (zfN (JM Zr)):=
 okC Tryz.f125 (memC (zhD Zr h_decl_closers) zA)
theorem ztn(Zr:List zb->Option Bool)(hs:CO (Vr Zr)):CO (Vr (PG Zr)):=
 okC Tryz.f124 (memC (zfu Zr hs) zA)
theorem zsB:CO (Vr Zr):=recC (Vr Zr) (PG) (fun S h=>ztn S h)
theorem uQ:CO (zBP jq):=
 okC Tryz.f128 (memC tq zA)
theorem zsA:CO (ztL SF):=
 okC Tryz.f126 (memC tq (memC uQ zA))
theorem zgh:CO (zgD KM):=
 okC Tryz.f91 (memC zsA zA) (cuts:=[(2,⟨[8],⟨[.int .i64],[]⟩,[0,1,7],[],[],0,[],⟨[],[]⟩,[]⟩)])
theorem zeU:CO (ze8 qV):=
 okC Tryz.f125 (memC zgh zA)
theorem GL:CO (sZ Kn):=
 okC Tryz.f83 (memC tQ (memC l8 (memC X8 (memC zsB (memC zeU (memC qY (memC tq zA)))))))
theorem zvq(En:zu->Option Int)(hs:CO (tF En)):CO (tF (wF En)):=
 okC Tryz.f84 (memC hs zA) (cuts:=[(5,⟨[3,17],⟨[.int .i64, .int .i64],[]⟩,[15,16],[],[],0,[3],⟨[.int .i64],[]⟩,[]⟩)]) (joins:=[(4,⟨[3],⟨[.int .i64],[]⟩,[1],[0],[],0,[],⟨[],[]⟩,[]⟩)])
theorem zuU:CO (tF En):=recC (tF En) (wF) (fun S h=>zvq S h)
theorem oF:CO (zBN ll):=
 okC Tryz.f133 zA
theorem lL:CO (zj5 slices_Index_string):=
 okC Tryz.f280 zA (cuts:=[(2,⟨[8],⟨[.int .i64],[]⟩,[0,1,7],[],[],0,[],⟨[],[]⟩,[]⟩)])
theorem zhC:CO (zhO slices_Contains_string):=
 okC Tryz.f241 (memC lL zA)
theorem uR:CO (T9 Dv):=
 okC Tryz.f204 (memC zhC (memC qc (memC qZ zA))) (fz:=[(1,[0])])
theorem zus:CO (R9 gK):=
 okC Tryz.f257 zA (cuts:=[(2,⟨[7],⟨[.int .i64],[]⟩,[5,6],[],[],0,[],⟨[],[]⟩,[]⟩)])
theorem rR:CO (S9 Gv):=
 okC Tryz.f223 (memC zus zA) (fz:=[(1,[1])])
theorem p8:CO (tZ Ty):=
 okC Tryz.f183 (memC oF (memC uR (memC rR zA))) (cuts:=[(4,⟨[23],⟨[.int .i64],[]⟩,[21,22],[],[],0,[],⟨[],[]⟩,[]⟩)]) (joins:=[(17,⟨[57],⟨[.bool],[]⟩,[4,23],[1],[],0,[],⟨[],[]⟩,[]⟩),(19,⟨[23],⟨[.int .i64],[]⟩,[],[],[],0,[],⟨[],[]⟩,[]⟩)])
theorem A9:CO (uZ xD):=
 okC Tryz.f184 zA
theorem zAX:CO (zBM OD):=
 okC Tryz.f132 (memC oF (memC p8 (memC A9 zA)))
theorem zlx:CO (zml RH):=
 okC Tryz.f131 (memC zAX zA)
theorem zh7:CO (ziD tL):=
 okC Tryz.f182 (memC zlx zA) (cuts:=[(2,⟨[8],⟨[.int .i64],[]⟩,[0,1,7],[],[],0,[],⟨[],[]⟩,[]⟩)])
theorem zgf:CO (zgB QE):=
 okC Tryz.f130 (memC zh7 zA)
theorem zn0:CO (zoL fG):=
 okC Tryz.f85 (memC zgf (memC oF zA))
theorem V7(ol:zu->Option Int)(hs:CO (TF ol)):CO (TF (tu ol)):=
 okC Tryz.f86 (memC FL (memC hs zA)) (cuts:=[(9,⟨[5,27],⟨[.int .i64, .int .i64],[]⟩,[2,25,26],[],[],1,[5],⟨[.int .i64],[]⟩,[]⟩)]) (joins:=[(14,⟨[5,8],⟨[.int .i64, .int .i64],[]⟩,[27],[],[],0,[],⟨[],[]⟩,[]⟩)])
theorem D5:CO (TF ol):=recC (TF ol) (tu) (fun S h=>V7 S h)
theorem zAY:CO (zBO ND):=
 okC Tryz.f185 zA
theorem zBu(Pk:zu×Int->Option ((Int×Bool)×Int))(hs:CO (UE Pk)):CO (UE (Ev Pk)):=
 okC Tryz.f134 (memC FL (memC GL (memC oF (memC hs (memC zAY zA))))) (p:=1) (cuts:=[(19,⟨[9,97],⟨[.int .i64, .int .i64],[(0, .row 3)]⟩,[1,95,96],[],[0],1,[9],⟨[.int .i64],[(0, .row 3)]⟩,[0]⟩)]) (joins:=[(15,⟨[69],⟨[.bool],[]⟩,[1,2,6],[0,1],[],0,[],⟨[],[]⟩,[]⟩),(26,⟨[9,12],⟨[.int .i64, .int .i64],[]⟩,[97],[0],[],0,[],⟨[],[]⟩,[]⟩)])
theorem zAZ:CO (UE Pk):=recC (UE Pk) (Ev) (fun S h=>zBu S h)
theorem uT:CO (zln uz):=
 okC Tryz.f87 (memC zAZ zA)
theorem X7(ul:List zN->Option zH)(hs:CO (UF ul)):CO (UF (uu ul)):=
 okC Tryz.f47 (memC hs (memC ze9 (memC zps (memC zqI (memC zuW (memC FL (memC GL (memC zuU (memC zn0 (memC D5 (memC uT zA))))))))))) (cuts:=[(3,⟨[18],⟨[.int .i64],[(1, .row 98)]⟩,[2,3,16,17],[0],[1],0,[],⟨[],[(1, .row 98)]⟩,[1]⟩),(17,⟨[10,87],⟨[.bool, .int .i64],[(3, .row 98)]⟩,[6,7,18,85,86],[1],[3],3,[10],⟨[.bool],[(3, .row 98)]⟩,[3]⟩)]) (joins:=[(35,⟨[7,10],⟨[.int .i64, .bool],[(1, .row 98),(3, .row 98)]⟩,[6,18],[],[1,3],0,[],⟨[],[]⟩,[]⟩)]) (exS:=⟨[.optr 0],[(0, .row 98)]⟩)
theorem H5:CO (UF ul):=recC (UF ul) (uu) (fun S h=>X7 S h)
theorem zuV:CO (zw3 KE):=
 okC Tryz.f33 (memC H5 zA)
theorem zuT:CO (zw2 gy):=
 okC Tryz.f24 (memC zuV zA)
theorem TS:CO (zw9 Yy):=
 okC Tryz.f15 (memC zuT zA) (cuts:=[(5,⟨[3,23],⟨[.int .i64, .int .i64],[]⟩,[1,21,22],[0],[],0,[],⟨[],[]⟩,[]⟩)])
theorem zhF:CO (zhR qp):=
 okC Tryz.f89 (memC qY (memC eD zA)) (p:=1) (cuts:=[(0,⟨[],⟨[],[(0, .row 151)]⟩,[0],[],[0],0,[],⟨[],[(0, .row 151)]⟩,[0]⟩)])
theorem Zj:CO (zlt zo):=
 okC Tryz.f138 zA (p:=1)
theorem az:CO (J8 Ar):=
 okC Tryz.f139 zA
theorem kL:CO (zj7 qb):=
 okC Tryz.f140 (memC Zj (memC az zA)) (p:=1) (cuts:=[(0,⟨[],⟨[],[(0, .row 151)]⟩,[0,1],[],[0],0,[],⟨[],[(0, .row 151)]⟩,[0]⟩)])
theorem zfy:CO (zfR FM):=
 okC Tryz.f265 zA (fz:=[(2,[1]),(4,[9]),(7,[14]),(9,[19])]) (joins:=[(7,⟨[25],⟨[.bool],[]⟩,[0,1,5],[],[],0,[],⟨[],[]⟩,[]⟩)])
theorem zlI:CO (zmz QY):=
 okC Tryz.f230 (memC zfy zA) (fz:=[(2,[3])])
theorem oG:CO (zuj yo):=
 okC Tryz.f232 zA
theorem bz:CO (L8 Il):=
 okC Tryz.f192 (memC oG zA)
theorem mQ:CO (zB5 Ku):=
 okC Tryz.f231 (memC bz (memC oG zA))
theorem zgJ:CO (zhs QT):=
 okC Tryz.f190 (memC Zj (memC zlI (memC mQ (memC az zA)))) (fz:=[(7,[3])]) (p:=1) (cuts:=[(10,⟨[6,36],⟨[.int .i64, .int .i64],[(0, .row 151)]⟩,[0,1,4],[],[0],0,[6],⟨[.int .i64],[(0, .row 151)]⟩,[0]⟩)]) (joins:=[(17,⟨[6],⟨[.int .i64],[(0, .row 151)]⟩,[1],[],[0],0,[],⟨[],[]⟩,[]⟩),(19,⟨[6],⟨[.int .i64],[]⟩,[],[0],[],0,[],⟨[],[]⟩,[]⟩)])
theorem zfz:CO (zfS EM):=
 okC Tryz.f265 zA (fz:=[(2,[1]),(4,[9]),(7,[14]),(9,[19])]) (p:=1) (joins:=[(7,⟨[25],⟨[.bool],[(0, .sl 5)]⟩,[0,1,5],[],[0],0,[],⟨[],[]⟩,[]⟩)])
theorem zlJ:CO (zmA QZ):=
 okC Tryz.f230 (memC zfz zA) (fz:=[(2,[3])]) (p:=1)
theorem xL:CO (zht qg):=
 okC Tryz.f190 (memC Zj (memC zlJ (memC mQ (memC az zA)))) (fz:=[(7,[3])]) (p:=2) (cuts:=[(10,⟨[6,36],⟨[.int .i64, .int .i64],[(0, .row 151)]⟩,[0,1,4],[1],[0],0,[6],⟨[.int .i64],[(0, .row 151)]⟩,[0]⟩)]) (joins:=[(17,⟨[6],⟨[.int .i64],[(0, .row 151),(1, .sl 5)]⟩,[1],[],[0,1],0,[],⟨[],[]⟩,[]⟩),(19,⟨[6],⟨[.int .i64],[(1, .sl 5)]⟩,[],[0],[1],0,[],⟨[],[]⟩,[]⟩)])
theorem zi0:CO (zjJ iH):=
 okC Tryz.f141 (memC Zj (memC xL zA)) (fz:=[(5,[3])]) (p:=1) (cuts:=[(4,⟨[4],⟨[.own 1208],[(0, .row 151),(1, .row 102),(1208, .sl 5)]⟩,[0,2,3],[],[0,1],0,[4],⟨[.own 1208],[(0, .row 151),(1, .row 102),(1208, .sl 5)]⟩,[0,1,1208]⟩)]) (exS:=⟨[.optr 1],[(0, .row 151),(1, .row 102)]⟩)
theorem SS:CO (K8 Wy):=
 okC Tryz.f191 (memC oG zA)
theorem WS:CO (zuh uE):=
 okC Tryz.f142 (memC SS (memC bz zA))
theorem qQ:CO (zjH ZA):=
 okC Tryz.f143 (memC Zj zA) (p:=1)
theorem rT:CO (zlr ZC):=
 okC Tryz.f144 (memC Zj (memC SS (memC qQ zA))) (p:=1)
theorem uL:CO (zlu ZR):=
 okC Tryz.f145 (memC Zj (memC WS (memC qQ (memC xL zA)))) (fz:=[(5,[3])]) (p:=1) (cuts:=[(2,⟨[3],⟨[.own 1209],[(0, .row 151),(1209, .sl 5)]⟩,[0],[],[0],0,[],⟨[],[]⟩,[]⟩)])
theorem ziZ:CO (zjI Qa):=
 okC Tryz.f146 (memC Zj (memC bz zA)) (p:=1) (joins:=[(5,⟨[3],⟨[.int .i64],[]⟩,[0],[],[],0,[],⟨[],[]⟩,[]⟩),(7,⟨[3],⟨[.int .i64],[]⟩,[],[],[],0,[],⟨[],[]⟩,[]⟩)])
theorem zic:CO (ziJ ZK):=
 okC Tryz.f140 (memC Zj (memC bz zA)) (p:=1) (cuts:=[(0,⟨[],⟨[],[(0, .row 151)]⟩,[0,1],[],[0],0,[],⟨[],[(0, .row 151)]⟩,[0]⟩)])
theorem zia:CO (ziH jH):=
 okC Tryz.f193 (memC Zj (memC zic (memC bz zA))) (p:=1) (joins:=[(4,⟨[],⟨[],[(0, .row 151)]⟩,[0],[],[0],0,[],⟨[],[]⟩,[]⟩),(10,⟨[4],⟨[.bool],[(0, .row 151)]⟩,[],[],[0],0,[],⟨[],[]⟩,[]⟩),(15,⟨[4,5],⟨[.bool, .int .i64],[(0, .row 151)]⟩,[],[],[0],0,[],⟨[],[]⟩,[]⟩),(19,⟨[4],⟨[.bool],[(0, .row 151)]⟩,[],[],[0],0,[],⟨[],[]⟩,[]⟩)])
theorem zlH:CO (zmy uG):=
 okC Tryz.f194 (memC zHy (memC zA2 (memC zMv zA))) (cuts:=[(8,⟨[6,31],⟨[.int .i64, .int .i64],[]⟩,[0,2,3,4,5,29,30],[0],[],0,[6],⟨[.int .i64],[]⟩,[]⟩),(22,⟨[12,81],⟨[.int .i64, .int .i64],[]⟩,[4,79,80],[0],[],2,[12],⟨[.int .i64],[]⟩,[]⟩),(26,⟨[4,12],⟨[.int .i64, .int .i64],[]⟩,[],[],[],4,[12],⟨[.int .i64],[]⟩,[]⟩)]) (joins:=[(14,⟨[0,4,6],⟨[.str, .int .i64, .int .i64],[]⟩,[3,5],[],[],0,[],⟨[],[]⟩,[]⟩),(15,⟨[0,4],⟨[.str, .int .i64],[]⟩,[3],[],[],0,[],⟨[],[]⟩,[]⟩),(20,⟨[0,4],⟨[.str, .int .i64],[]⟩,[],[],[],0,[],⟨[],[]⟩,[]⟩),(31,⟨[12],⟨[.int .i64],[]⟩,[],[],[],0,[],⟨[],[]⟩,[]⟩)])
theorem zib:CO (ziI QB):=
 okC Tryz.f147 (memC zia (memC zlH (memC rT (memC uL (memC Zj zA))))) (p:=1) (joins:=[(9,⟨[],⟨[],[(0, .row 151),(1, .row 102),(2, .row 102)]⟩,[2,5],[],[0,1,2],0,[],⟨[],[]⟩,[]⟩)]) (exS:=⟨[.optr 1],[(0, .row 151),(1, .row 102)]⟩)
theorem zlF:CO (zmw QX):=
 okC Tryz.f236 (memC Zj (memC qQ (memC zgJ zA))) (p:=1) (cuts:=[(1,⟨[],⟨[],[(0, .row 151),(1, .row 102)]⟩,[0,2],[],[0,1],0,[],⟨[],[]⟩,[]⟩)]) (exS:=⟨[.optr 1],[(0, .row 151),(1, .row 102)]⟩)
theorem zlG:CO (zmx vG):=
 okC Tryz.f196 (memC kL (memC Zj (memC az (memC zlF (memC oG (memC qQ (memC xL zA))))))) (fz:=[(18,[3])]) (p:=1) (cuts:=[(3,⟨[3],⟨[.own 1210],[(0, .row 151),(1, .row 102),(1210, .sl 5)]⟩,[0,2],[],[0,1],0,[],⟨[],[]⟩,[]⟩)]) (joins:=[(10,⟨[3,4],⟨[.own 1210, .int .i64],[(0, .row 151),(1, .row 102),(1210, .sl 5)]⟩,[],[],[0,1,1210],0,[],⟨[],[]⟩,[]⟩)]) (exS:=⟨[.optr 1],[(0, .row 151),(1, .row 102)]⟩)
theorem zjU:CO (zj6 Qo):=
 okC Tryz.f148 (memC uL (memC Zj (memC Ur (memC kL (memC zlG zA))))) (p:=1) (joins:=[(11,⟨[],⟨[],[(0, .row 151),(1, .row 102)]⟩,[2,3],[],[0,1],0,[],⟨[],[]⟩,[]⟩)]) (exS:=⟨[.optr 1],[(0, .row 151),(1, .row 102)]⟩)
theorem zkA:CO (zls BA):=
 okC Tryz.f90 (memC Zj (memC az (memC kL (memC zi0 (memC WS (memC qQ (memC rT (memC uL (memC ziZ (memC zib (memC qY (memC zjU (memC qZ zA))))))))))))) (p:=1) (exS:=⟨[.optr 1],[(0, .row 151),(1, .row 102)]⟩)
theorem zmR:CO (znp xG):=
 okC Tryz.f49 zA (fz:=[(1,[2])]) (p:=2)
theorem zs1:CO (zui rE):=
 okC Tryz.f48 (memC zHw (memC zhF (memC zkA (memC zmR zA)))) (p:=1) (cuts:=[(7,⟨[7],⟨[.int .i64],[(0, .cells 68 [.own 1211]),(1211, .sl 102),(1, .row 151)]⟩,[0,1,6],[],[0,1],0,[],⟨[],[(0, .cells 68 [.own 1211]),(1211, .sl 102),(1, .row 151)]⟩,[0,1,1211]⟩)])
theorem YS:CO (zug su):=
 okC Tryz.f34 (memC zs1 zA)
theorem I5:CO (X0 Ky):=
 okC Tryz.f52 zA
theorem zkv:CO (zlp aL):=
 okC Tryz.f149 zA (p:=1) (cuts:=[(2,⟨[8],⟨[.int .i64],[]⟩,[0,1,7],[],[],0,[],⟨[],[]⟩,[]⟩)])
theorem zh6:CO (ziC eH):=
 okC Tryz.f93 (memC zkv zA) (p:=1)
theorem zqN:CO (zrH vK):=
 okC Tryz.f92 (memC zh6 zA) (p:=2)
theorem zgi:CO (zgE QF):=
 okC Tryz.f91 (memC zqN zA) (p:=2) (cuts:=[(2,⟨[8],⟨[.int .i64],[]⟩,[0,1,7],[],[],0,[],⟨[],[]⟩,[]⟩)])
theorem zuZ:CO (zw8 IE):=
 okC Tryz.f54 (memC zgi zA) (p:=1)
theorem Qf:CO (zj3 Zk):=
 okC Tryz.f276 zA (p:=1) (exS:=⟨[.optr 1],[(1, .row 102)]⟩)
theorem BM:CO (ziB Zy):=
 okC Tryz.f274 (memC Qf zA) (p:=1) (cuts:=[(2,⟨[],⟨[],[(0, .row 311)]⟩,[0,2,3],[],[0],0,[],⟨[],[(0, .row 311)]⟩,[0]⟩)])
theorem nL:CO (zjZ qa):=
 okC Tryz.f277 (memC Qf zA) (p:=1)
theorem zjO:CO (zj0 Qm):=
 okC Tryz.f275 (memC nL (memC BM zA)) (p:=1) (cuts:=[(2,⟨[4],⟨[.int .i64],[(0, .row 311)]⟩,[0],[],[0],0,[],⟨[],[(0, .row 311)]⟩,[0]⟩)])
theorem zjP:CO (zj2 xz):=
 okC Tryz.f297 zA (p:=1)
theorem AU:CO (zj1 Qn):=
 okC Tryz.f279 zA (p:=1)
theorem zsR:CO (zt5 BF):=
 okC Tryz.f296 (memC BM (memC Qf (memC qc (memC AU (memC nL (memC eD (memC Ur zA))))))) (joins:=[(20,⟨[],⟨[],[(0, .cells 127 [.int .u8, .str, .int .u8, .str, .bool, .int .i64, .int .i64, .bool, .nilv]),(1, .row 311),(2, .cells 127 [.int .u8, .str, .int .u8, .str, .bool, .int .i64, .int .i64, .bool, .nilv])]⟩,[2,4,5],[],[0,1,2],0,[],⟨[],[]⟩,[]⟩)]) (exS:=⟨[.optr 0, .bool],[(0, .row 127)]⟩)
end Go.Lv.VT
end
