/- Contracts. -/
import Derived.Test.YtbgmaekmfjhfoaaGreatDoorTx
import Derived.Test.YtbgmaekmfjhfoaaGreatDoorIp
import Derived.Test.YtbgmaekmfjhfoaaGreatDoorLf
import Derived.Test.YtbgmaekmfjhfoaaGreatDoorPa
import Derived.Test.YtbgmaekmfjhfoaaGreatDoorGa
noncomputable section
set_option linter.unusedSimpArgs false
set_option linter.unusedVariables false
namespace Go.Lv.VT
set_option maxRecDepth 100000
open Go.Proofs
theorem alt2 {T U V W:Type} {A B:T->Option U} {t:Option V} {c:V->Bool} {p:V->Option W} {d:W->Bool} {x:T} {y:U}
  (h:(ze t fun v=>bif c v then ze (A x) fun z=>some z else ze (p v) fun w=>bif d w then ze (A x) fun z=>some z else ze (B x) fun z=>some z)=some y): ∃n:Bool,(cond n A B) x=some y:=by
 have key: ∀o:Option U,ze o (fun z=>some z)=some y->o=some y:=fun o=>by cases o<;>exact id
 cases t with
 |none=>cases h
 |some v=>
  replace h:(bif c v then ze (A x) fun z=>some z else ze (p v) fun w=>bif d w then ze (A x) fun z=>some z else ze (B x) fun z=>some z)=some y:=h;cases hc:c v<;>rw[hc]at h
  ·replace h:(ze (p v) fun w=>bif d w then ze (A x) fun z=>some z else ze (B x) fun z=>some z)=some y:=h;cases hp:p v with
   |none=>rw[hp]at h;cases h
   |some w=>
    rw[hp]at h;replace h:(bif d w then ze (A x) fun z=>some z else ze (B x) fun z=>some z)=some y:=h;cases hd:d w<;>rw[hd]at h
    ·exact⟨false,key _ h⟩
    ·exact⟨true,key _ h⟩
  ·exact⟨true,key _ h⟩
def K0(f:Nat)(i o:List Sh)(F:((⟨i,[]⟩:StSh).sl I).T->Option ((⟨o,[]⟩:StSh).sl I).T):Con I:=⟨f,⟨i,[]⟩,[],⟨o,[]⟩,0,F⟩
abbrev CO(c:Con I):Prop:=ZP Tryz.prog c
def ziH:=K0 60 [.str, .int .u8] [.int .i64]
def O8:=K0 111 [.str] [.bool]
def zdB:=K0 157 [.sl 9, .clo 111 []] [.int .i64]
def zcy:=K0 110 [.sl 9, .clo 111 []] [.bool]
def sZ:=K0 72 [.sl 9] [.bool]
def G6:=K0 71 [.sl 9] [.bool]
def zeD:=K0 109 [.sl 46, .clo 71 []] [.int .i64]
def zc6:=K0 70 [.sl 46, .clo 71 []] [.bool]
def gB:=K0 73 [.sl 115] [.int .i64]
def J6:=K0 225 [.str, .int .i64] [.bool]
def V8:=K0 221 [.str] [.bool]
def U1:=K0 38 [.str] [.str]
def P8:=K0 197 [.str] [.bool]
def X8:=K0 222 [.val 190] [.bool, .bool]
def zjw:=K0 223 [.val 197, .int .u8] [.val 197, .bool]
def kY:=K0 235 [.int .i64] [.bool]
def OY:=K0 226 [.val 185] [.int .i64]
def zjx(F:zu×zg×zH->Option Bool):Con I:=⟨224,⟨[.val 115, .optr 0, .optr 1],[(0, .row 197),(1, .row 190)]⟩,[0,1],⟨[.bool],[]⟩,0,F⟩
def zc7(F:List zu×zg×zH->Option Int):Con I:=⟨158,⟨[.sl 115, .clo 224 [0,1]],[(0, .row 197),(1, .row 190)]⟩,[0,1],⟨[.int .i64],[]⟩,0,F⟩
def zb8(F:List zu×zg×zH->Option Bool):Con I:=⟨112,⟨[.sl 115, .clo 224 [0,1]],[(0, .row 197),(1, .row 190)]⟩,[0,1],⟨[.bool],[]⟩,0,F⟩
def K9:=K0 198 [.val 190, .val 197] [.bool]
def zju:=K0 161 [.val 138, .val 197] [.bool]
def p9(F:zU×zg->Option Bool):Con I:=⟨160,⟨[.val 138, .optr 0],[(0, .row 197)]⟩,[0],⟨[.bool],[]⟩,0,F⟩
def zdA(F:List zU×zg->Option Int):Con I:=⟨196,⟨[.sl 138, .clo 160 [0]],[(0, .row 197)]⟩,[0],⟨[.int .i64],[]⟩,0,F⟩
def zcx(F:List zU×zg->Option Bool):Con I:=⟨159,⟨[.sl 138, .clo 160 [0]],[(0, .row 197)]⟩,[0],⟨[.bool],[]⟩,0,F⟩
def ZQ:=K0 114 [.val 115, .val 197, .bool] [.bool]
def r9:=K0 113 [.val 115] [.bool]
def zd6:=K0 158 [.sl 115, .clo 113 []] [.int .i64]
def zcS:=K0 112 [.sl 115, .clo 113 []] [.bool]
def yB:=K0 115 [.sl 115] [.int .i64]
def Y8:=K0 74 [.sl 115] [.int .i64]
def uZ:=K0 75 [.val 42] [.bool]
def U0:=K0 24 [.int .u8] [.int .u8]
def dA:=K0 116 [.sl 61, .int .u8] [.val 200]
def VY:=K0 106 [.sl 61] [.int .i64]
def UY:=K0 76 [.sl 61] [.int .i64, .int .i64]
def cB(F:List za×List zk->Option (List zk)):Con I:=⟨162,⟨[.own 0, .sl 61],[(0, .sl 59)]⟩,[],⟨[.own 1],[(1, .sl 59)]⟩,1,F⟩
def O0(F:List za->Option (List zk)):Con I:=⟨162,⟨[.nilv, .sl 61],[]⟩,[],⟨[.own 0],[(0, .sl 59)]⟩,1,F⟩
def UX:=K0 117 [.sl 61] [.sl 59, .int .i64]
def zfI:=K0 88 [.str, .str] [.bool]
def ziG:=K0 47 [.str, .str] [.bool]
def dY:=K0 118 [.str] [.bool]
def zeZ:=K0 236 [.str, .str] [.str]
def zhY:=K0 227 [.str, .str] [.str]
def YY:=K0 228 [.int .u8] [.bool]
def X6:=K0 199 [.str] [.bool]
def J2:=K0 229 [.int .u8] [.bool]
def XY:=K0 200 [.int .u8] [.bool]
def zjy:=K0 201 [.str, .str] [.bool]
def WX:=K0 163 [.val 59] [.bool]
def V6(F:(Int×Int)×List zk->Option Bool):Con I:=⟨202,⟨[.int .i64, .int .u8, .optr 0],[(0, .row 49)]⟩,[0],⟨[.bool],[]⟩,0,F⟩
def Y1:=K0 95 [.str, .str] [.bool]
def WY:=K0 164 [.sl 59] [.int .i64]
def aY:=K0 119 [.sl 59] [.int .i64]
def vV:=K0 123 [.val 61, .int .u8] [.bool]
def L9:=K0 165 [.val 61] [.bool]
def zeY:=K0 61 [.sl 61, .clo 165 []] [.int .i64]
def zdz:=K0 121 [.sl 61, .clo 165 []] [.bool]
def QH:=K0 120 [.sl 61] [.bool]
def JY:=K0 124 [.val 61] [.bool]
def D5:=K0 122 [.val 61] [.bool]
def zd7:=K0 61 [.sl 61, .clo 122 []] [.int .i64]
def zcT:=K0 121 [.sl 61, .clo 122 []] [.bool]
def eY:=K0 77 [.val 39] [.int .i64]
def bB:=K0 78 [.val 42] [.int .i64]
def LY:=K0 128 [.val 42] [.bool]
def zgT:=K0 219 [.sl 9, .str] [.int .i64]
def zeX:=K0 193 [.sl 9, .str] [.bool]
def Y4:=K0 154 [.str] [.bool]
def U2:=K0 220 [.sl 2] [.int .i64]
def X4:=K0 194 [.int .i64] [.int .i64]
def gY:=K0 167 [.val 42] [.bool]
def iY:=K0 168 [.val 42] [.bool]
def NY:=K0 127 [.val 42] [.bool]
def ziA:=K0 126 [.val 42] [.bool]
def zfG:=K0 166 [.sl 42, .clo 126 []] [.int .i64]
def zd5:=K0 125 [.sl 42, .clo 126 []] [.bool]
def zkF:=K0 79 [.val 42] [.int .i64]
def MB:=K0 80 [.val 42] [.int .i64]
def KY:=K0 169 [.val 42] [.bool]
def fA(F:zt×Int->Option ((Int×Bool)×Int)):Con I:=⟨129,⟨[.val 42, .optr 0],[(0, .row 3)]⟩,[],⟨[.int .i64, .bool],[(0, .row 3)]⟩,0,F⟩
def zhV:=K0 81 [.val 42] [.int .i64]
def NB:=K0 43 [.sl 45] [.val 118]
def vZ:=K0 31 [.sl 45] [.int .i64]
def wZ:=K0 17 [.val 27] [.int .i64]
def ze0(F:zb->Option zb):Con I:=⟨35,⟨[.optr 0],[(0, .row 104)]⟩,[],⟨[],[(0, .row 104)]⟩,0,F⟩
def zh1(F:Int×zb->Option Int):Con I:=⟨49,⟨[.optr 0, .int .i64],[(0, .row 104)]⟩,[0],⟨[.int .i64],[]⟩,0,F⟩
def kZ:=K0 50 [.int .i64] [.bool]
def zgV(F:zb->Option zb):Con I:=⟨51,⟨[.optr 0, .clo 50 []],[(0, .row 104)]⟩,[],⟨[],[(0, .row 104)]⟩,0,F⟩
def zdD(F:Int->Option (List UInt8)):Con I:=⟨180,⟨[.nilv, .int .i32],[]⟩,[],⟨[.own 0],[(0, .sl 5)]⟩,1,F⟩
def ziL(F:Int->Option (List UInt8)):Con I:=⟨139,⟨[.nilv, .int .i32],[]⟩,[],⟨[.own 0],[(0, .sl 5)]⟩,1,F⟩
def V5:=K0 141 [.int .i64, .int .i64, .int .i64] [.bool]
def mZ:=K0 92 [.int .i64] [.bool]
def PX:=K0 140 [.int .i64] [.int .i64]
def zeE(F:zb->Option (zb×List UInt8)):Con I:=⟨90,⟨[.optr 0, .nilv],[(0, .row 104)]⟩,[],⟨[.own 1],[(0, .row 104),(1, .sl 5)]⟩,1,F⟩
def zdE(F:Int×List UInt8->Option (List UInt8)):Con I:=⟨180,⟨[.own 0, .int .i32],[(0, .sl 5)]⟩,[],⟨[.own 1],[(1, .sl 5)]⟩,1,F⟩
def ziM(F:Int×List UInt8->Option (List UInt8)):Con I:=⟨139,⟨[.own 0, .int .i32],[(0, .sl 5)]⟩,[],⟨[.own 1],[(1, .sl 5)]⟩,1,F⟩
def zeF(F:zb×List UInt8->Option (zb×List UInt8)):Con I:=⟨90,⟨[.optr 0, .own 1],[(0, .row 104),(1, .sl 5)]⟩,[],⟨[.own 2],[(0, .row 104),(2, .sl 5)]⟩,1,F⟩
def zgA(F:zb->Option (zk×zb)):Con I:=⟨52,⟨[.optr 0],[(0, .row 104)]⟩,[],⟨[.val 59],[(0, .row 104)]⟩,0,F⟩
def lZ:=K0 91 [.int .i64] [.bool]
def l5:=K0 53 [.int .i64] [.bool]
def zgy(F:Int×zb->Option Bool):Con I:=⟨54,⟨[.optr 0, .int .i64],[(0, .row 104)]⟩,[0],⟨[.bool],[]⟩,0,F⟩
def zhZ(F:Int×zb->Option Bool):Con I:=⟨55,⟨[.optr 0, .int .i64],[(0, .row 104)]⟩,[0],⟨[.bool],[]⟩,0,F⟩
def zh2(F:zb->Option (Str×zb)):Con I:=⟨56,⟨[.optr 0],[(0, .row 104)]⟩,[],⟨[.str],[(0, .row 104)]⟩,0,F⟩
def zgz(F:zb->Option Bool):Con I:=⟨57,⟨[.optr 0],[(0, .row 104)]⟩,[0],⟨[.bool],[]⟩,0,F⟩
def zfL(F:zb->Option zb):Con I:=⟨51,⟨[.optr 0, .clo 92 []],[(0, .row 104)]⟩,[],⟨[],[(0, .row 104)]⟩,0,F⟩
def zfJ(F:zb->Option (Bool×zb)):Con I:=⟨93,⟨[.optr 0],[(0, .row 104)]⟩,[],⟨[.bool],[(0, .row 104)]⟩,0,F⟩
def ziK:=K0 94 [.str] [.int .i64]
def zfK(F:zb->Option (zk×zb)):Con I:=⟨58,⟨[.optr 0],[(0, .row 104)]⟩,[],⟨[.val 59],[(0, .row 104)]⟩,0,F⟩
def ziI(F:zb->Option (zk×zb)):Con I:=⟨145,⟨[.optr 0],[(0, .row 104)]⟩,[],⟨[.val 59],[(0, .row 104)]⟩,0,F⟩
def ziJ(F:zb->Option (zk×zb)):Con I:=⟨96,⟨[.optr 0],[(0, .row 104)]⟩,[],⟨[.val 59],[(0, .row 104)]⟩,0,F⟩
def zgU(F:zb->Option (zk×zb)):Con I:=⟨59,⟨[.optr 0],[(0, .row 104)]⟩,[],⟨[.val 59],[(0, .row 104)]⟩,0,F⟩
def zh0(F:zb->Option (zk×zb)):Con I:=⟨36,⟨[.optr 0],[(0, .row 104)]⟩,[],⟨[.val 59],[(0, .row 104)]⟩,0,F⟩
def zjz(F:(zk×Int×Int)×List zk->Option (List zk)):Con I:=⟨21,⟨[.val 59, .int .i64, .int .i64, .optr 0],[(0, .cells 49 [.own 1]),(1, .sl 59)]⟩,[],⟨[],[(0, .cells 49 [.own 2]),(2, .sl 59)]⟩,1,F⟩
def Y5(F:Str->Option (Int×List zk)):Con I:=⟨20,⟨[.str, .clo 21 [0]],[(0, .cells 49 [.nilv])]⟩,[],⟨[.int .i64],[(0, .cells 49 [.own 1]),(1, .sl 59)]⟩,1,F⟩
def D6:=K0 11 [.str] [.sl 59, .int .i64]
def vY:=K0 37 [.sl 61] [.int .u8]
def zhX(F:Int×List UInt8->Option Int):Con I:=⟨98,⟨[.own 0, .int .u8],[(0, .sl 5)]⟩,[0],⟨[.int .i64],[]⟩,0,F⟩
def zfF(F:Int×List UInt8->Option Bool):Con I:=⟨63,⟨[.own 0, .int .u8],[(0, .sl 5)]⟩,[0],⟨[.bool],[]⟩,0,F⟩
def M8(F:za×List UInt8->Option Bool):Con I:=⟨62,⟨[.val 61, .optr 0],[(0, .cells 67 [.own 1]),(1, .sl 5)]⟩,[0,1],⟨[.bool],[]⟩,0,F⟩
def zd8(F:List za×List UInt8->Option Int):Con I:=⟨61,⟨[.sl 61, .clo 62 [0]],[(0, .cells 67 [.own 1]),(1, .sl 5)]⟩,[0,1],⟨[.int .i64],[]⟩,0,F⟩
def oZ(F:List za×List UInt8->Option (List za×List za)):Con I:=⟨39,⟨[.sl 61, .own 0],[(0, .sl 5)]⟩,[0],⟨[.sl 61, .sl 61],[]⟩,0,F⟩
def zgR(F:Int×zq->Option zk):Con I:=⟨215,⟨[.optr 0, .int .i64],[(0, .row 288)]⟩,[0],⟨[.val 59],[]⟩,0,F⟩
def zfE(F:zq->Option (Bool×zq)):Con I:=⟨213,⟨[.optr 0],[(0, .row 288)]⟩,[],⟨[.bool],[(0, .row 288)]⟩,0,F⟩
def zgN(F:Str×zq->Option (Bool×zq)):Con I:=⟨216,⟨[.optr 0, .str],[(0, .row 288)]⟩,[],⟨[.bool],[(0, .row 288)]⟩,0,F⟩
def zgO(F:zq->Option (Int×zq)):Con I:=⟨214,⟨[.optr 0],[(0, .row 288)]⟩,[],⟨[.int .u8],[(0, .row 288)]⟩,0,F⟩
def zgQ(F:Int×zq->Option (List za)):Con I:=⟨232,⟨[.optr 0, .int .i64],[(0, .row 288)]⟩,[0],⟨[.sl 61],[]⟩,0,F⟩
def zgP(F:zq->Option Bool):Con I:=⟨218,⟨[.optr 0],[(0, .row 288)]⟩,[0],⟨[.bool],[]⟩,0,F⟩
def L6:=K0 231 [.sl 61] [.val 190, .bool]
def U8:=K0 237 [] [.sl 9]
def K6:=K0 233 [.str] [.val 190, .bool]
def R8:=K0 239 [.val 61] [.bool]
def zd9:=K0 61 [.sl 61, .clo 239 []] [.int .i64]
def ziz(F:zN->Option zN):Con I:=⟨241,⟨[.optr 0],[(0, .row 316)]⟩,[],⟨[],[(0, .row 316)]⟩,0,F⟩
def zkE(F:Int×zN->Option ((zk×Bool)×zN)):Con I:=⟨244,⟨[.optr 0, .int .u8],[(0, .row 316)]⟩,[],⟨[.val 59, .bool],[(0, .row 316)]⟩,0,F⟩
def zjo(F:zN->Option ((Int×Bool)×zN)):Con I:=⟨243,⟨[.optr 0],[(0, .row 316)]⟩,[],⟨[.int .i64, .bool],[(0, .row 316)]⟩,0,F⟩
def zfH:=K0 248 [.str, .str] [.str, .bool]
def ziF:=K0 245 [.str, .str] [.str, .bool]
def zkD(F:zN->Option (Int×zN)):Con I:=⟨247,⟨[.optr 0],[(0, .row 316)]⟩,[],⟨[.int .i64],[(0, .row 316)]⟩,0,F⟩
def ziy(F:Str×zN->Option ((Int×Bool)×zN)):Con I:=⟨246,⟨[.optr 0, .str],[(0, .row 316)]⟩,[],⟨[.int .i64, .bool],[(0, .row 316)]⟩,0,F⟩
def zkC(F:zN->Option ((VAnb×Bool)×zN)):Con I:=⟨242,⟨[.optr 0],[(0, .row 316)]⟩,[],⟨[.val 185, .bool],[(0, .row 316)]⟩,0,F⟩
def zBg:=K0 240 [.sl 59] [.val 185, .int .i64]
def xZ:=K0 238 [.val 190, .sl 61, .val 197] [.val 190, .bool]
def zjv:=K0 234 [.str, .sl 61, .val 197] [.val 190, .bool]
def zeW(F:zg×zq->Option ((List zH×Bool)×zq)):Con I:=⟨217,⟨[.optr 0, .val 197],[(0, .row 288)]⟩,[],⟨[.sl 190, .bool],[(0, .row 288)]⟩,0,F⟩
def ziD:=K0 189 [.sl 61, .val 197, .bool] [.val 115, .bool]
def qQ:=K0 147 [.sl 61, .val 197, .bool, .bool] [.sl 115, .bool]
def PY:=K0 99 [.sl 61] [.sl 115, .int .i64]
def rQ(F:List za->Option (List za)):Con I:=⟨192,⟨[.sl 61],[]⟩,[],⟨[.own 0],[(0, .sl 61)]⟩,1,F⟩
def bA:=K0 149 [.sl 61] [.sl 61]
def TY:=K0 101 [.sl 61, .int .u8] [.sl 37, .int .i64]
def XX:=K0 191 [.sl 61] [.sl 61]
def bY:=K0 190 [.sl 61] [.sl 61]
def X0(F:Int×List za->Option Bool):Con I:=⟨150,⟨[.int .i64, .optr 0],[(0, .row 37)]⟩,[0],⟨[.bool],[]⟩,0,F⟩
def SX:=K0 102 [.sl 61] [.sl 61, .int .i64]
def sW:=K0 148 [.sl 61] [.val 39, .bool]
def wV:=K0 100 [.sl 61] [.sl 39, .int .i64]
def rZ:=K0 64 [.sl 61, .sl 61] [.val 45, .bool]
def zdC(F:List Str->Option Int):Con I:=⟨157,⟨[.own 0, .clo 111 []],[(0, .sl 9)]⟩,[0],⟨[.int .i64],[]⟩,0,F⟩
def zcz(F:List Str->Option Bool):Con I:=⟨110,⟨[.own 0, .clo 111 []],[(0, .sl 9)]⟩,[0],⟨[.bool],[]⟩,0,F⟩
def N8(F:List Str->Option Bool):Con I:=⟨72,⟨[.own 0],[(0, .sl 9)]⟩,[0],⟨[.bool],[]⟩,0,F⟩
def uY:=K0 103 [.sl 61] [.sl 9, .bool]
def tZ:=K0 65 [.sl 61, .bool] [.val 45, .bool]
def zjq(F:zh->Option Int):Con I:=⟨151,⟨[.optr 0],[(0, .row 180)]⟩,[0],⟨[.int .u8],[]⟩,0,F⟩
def zjr(F:zh->Option (za×zh)):Con I:=⟨152,⟨[.optr 0],[(0, .row 180)]⟩,[],⟨[.val 61],[(0, .row 180)]⟩,0,F⟩
def zhW(F:zh->Option (Bool×zh)):Con I:=⟨104,⟨[.optr 0],[(0, .row 180)]⟩,[],⟨[.bool],[(0, .row 180)]⟩,0,F⟩
def zjt(F:List Str×zh->Option (Str×zh)):Con I:=⟨153,⟨[.optr 0, .sl 9],[(0, .row 180)]⟩,[],⟨[.str],[(0, .row 180)]⟩,0,F⟩
def zgM(F:zh->Option ((zt×Bool)×zh)):Con I:=⟨155,⟨[.optr 0],[(0, .row 180)]⟩,[],⟨[.val 42, .bool],[(0, .row 180)]⟩,0,F⟩
def ziB(F:zh->Option ((zt×Bool)×zh)):Con I:=⟨105,⟨[.optr 0],[(0, .row 180)]⟩,[],⟨[.val 42, .bool],[(0, .row 180)]⟩,0,F⟩
def jY:=K0 66 [.sl 61] [.val 42, .int .i64]
def uW:=K0 195 [.sl 61] [.val 39, .bool, .int .i64]
def zjs(F:zh->Option ((zt×Bool)×zh)):Con I:=⟨156,⟨[.optr 0],[(0, .row 180)]⟩,[],⟨[.val 42, .bool],[(0, .row 180)]⟩,0,F⟩
def QB(F:zh->Option ((zt×Bool)×zh)):Con I:=⟨107,⟨[.optr 0],[(0, .row 180)]⟩,[],⟨[.val 42, .bool],[(0, .row 180)]⟩,0,F⟩
def l8:=K0 67 [.sl 61] [.val 42, .int .i64]
def zgS(F:(Bool×Str×List za)×zo->Option ((zJ×Bool)×zo)):Con I:=⟨40,⟨[.optr 0, .bool, .str, .sl 61, .nilp],[(0, .row 77)]⟩,[],⟨[.val 45, .bool],[(0, .row 77)]⟩,0,F⟩
def ziE(F:(Bool×Str×List za×za)×zo->Option ((zJ×Bool)×zo)):Con I:=⟨40,⟨[.optr 0, .bool, .str, .sl 61, .ptr 61],[(0, .row 77)]⟩,[],⟨[.val 45, .bool],[(0, .row 77)]⟩,0,F⟩
def Qa(F:(List za×Bool)×zo->Option (List zJ×zo)):Con I:=⟨26,⟨[.optr 0, .sl 61, .bool],[(0, .row 77)]⟩,[],⟨[.sl 45],[(0, .row 77)]⟩,0,F⟩
def tY:=K0 15 [.str] [.sl 45, .nilp, .int .i64]
def wY:=K0 6 [.str] [.val 27, .int .i64]
def F6(F:Str->Option ((List zJ×Int)×zo)):Con I:=⟨15,⟨[.str],[]⟩,[],⟨[.sl 45, .optr 0, .int .i64],[(0, .row 77)]⟩,1,F⟩
def I6:=K0 6 [.str] [.val 27, .int .i64]
def H6:=K0 6 [.str] [.val 27, .int .i64]
def Y0:=K0 9 [.str, .sl 5] [.bool]
def I1:=K0 4 [] [.bool]
def l9(F:(zk×Int×Int)×List ZG->Option (List ZG)):Con I:=⟨22,⟨[.val 59, .int .i64, .int .i64, .optr 0],[(0, .cells 52 [.own 1]),(1, .sl 57)]⟩,[],⟨[],[(0, .cells 52 [.own 2]),(2, .sl 57)]⟩,1,F⟩
def X5(F:Str->Option (Int×List ZG)):Con I:=⟨20,⟨[.str, .clo 22 [0]],[(0, .cells 52 [.nilv])]⟩,[],⟨[.int .i64],[(0, .cells 52 [.own 1]),(1, .sl 57)]⟩,1,F⟩
def nZ:=K0 12 [.str] [.sl 57, .int .i64]
def R6:=K0 25 [.int .u8] [.int .u8]
def aB:=K0 14 [.sl 61] [.sl 59]
def U6:=K0 5 [.str] [.int .i64, .bool]
def iB:=K0 7 [.sl 45] [.int .i64]
def O6(F:List zJ->Option Int):Con I:=⟨7,⟨[.own 0],[(0, .sl 45)]⟩,[0],⟨[.int .i64],[]⟩,0,F⟩
def P6:=K0 108 [.val 190] [.val 187]
def ziC:=K0 68 [.sl 190, .sl 190] [.bool]
def yZ:=K0 41 [.val 115, .val 115] [.bool]
def Ht:=K0 27 [.sl 115, .sl 115] [.bool]
def RB:=K0 69 [.sl 61, .sl 61] [.bool]
def M0:=K0 42 [.val 39, .val 39] [.bool]
def SY:=K0 28 [.sl 39, .sl 39] [.bool]
def OB:=K0 29 [.val 42, .val 42] [.bool]
def zkG:=K0 30 [.sl 46, .sl 46] [.bool]
def RY:=K0 8 [.sl 45, .sl 45] [.bool]
def Yw:=K0 16 [.val 45, .val 45] [.bool]
def M6(F:List zJ×List zJ->Option Bool):Con I:=⟨8,⟨[.sl 45, .own 0],[(0, .sl 45)]⟩,[0],⟨[.bool],[]⟩,0,F⟩
def eQ:=K0 3 [.str, .str, .str] [.bool]
def zBh:=K0 10 [.str] [.str, .int .i64]
theorem EG:ZP Tryz.prog (zBh Yi):=CV
def uV:=K0 97 [.str, .int .u8] [.int .i64]
theorem tV:ZP Tryz.prog (uV Ny):=iW
def zBi:=K0 48 [.str, .str] [.int .i64]
theorem Yz:ZP Tryz.prog (zBi ek):=BV
def zBk:=K0 142 [.str, .str] [.str]
theorem dU:ZP Tryz.prog (zBk Am):=yU
def VX:=K0 143 [.str, .str] [.int .i64]
theorem uX:ZP Tryz.prog (VX Um):=xY
def zFP:=K0 144 [.str, .str] [.str, .str, .bool]
theorem zEU:ZP Tryz.prog (zFP cutF):=zEc
def zBj:=K0 13 [.sl 59] [.sl 61, .int .i64]
theorem CG:ZP Tryz.prog (zBj parseF):=AV
def zDQ:=K0 249 [.str, .str] [.str]
theorem zCm:ZP Tryz.prog (zDQ trimF):=zBS
def VW:=K0 250 [.str, .int .i64, .int .i64] [.int .i64, .ifb]
theorem sV:ZP Tryz.prog (VW tu):=gW
variable [Fu]
theorem okC{con:Con I}{S:List (Con I)}(f:Go.Func)(hS: ∀c∈S,ZP Tryz.prog c)(fz:List (Nat×List Nat):=[])(pre:List (Nat×List (Nat×Option Nat)):=[])(p:Nat:=0)(cuts:List (Nat×Cut):=[])(joins:List (Nat×Cut):=[])(cls:List (Nat×List Nat):=[])(fl:Option Nat:=Fu.n)(exS:StSh:=con.outS)(hf:Tryz.prog.funcs[con.f]? =some f:=by kernel_rfl)(h:chk con (⟨S,fz,pre,p,cuts,joins,cls,fl⟩:Env0 I) f=true:=by kernel_rfl)(he: ∀x,evF2 (⟨S,fz,pre,p,cuts,joins,cls,fl⟩:Env0 I) T FK f.ntmps (rsl f) (body f) con exS x=con.F x:=by intro x;kernel_rfl):ZP Tryz.prog con:=
 okC0 mixed ipOK tok rfl rfl hS hf h he
theorem recC(c:Con I)(B:((c.inS.sl I).T->Option (c.outS.sl I).T)->(c.inS.sl I).T->Option (c.outS.sl I).T)(hB: ∀S,ZP Tryz.prog (⟨c.f,c.inS,c.cst,c.outS,c.k,S⟩:Con I)->ZP Tryz.prog (⟨c.f,c.inS,c.cst,c.outS,c.k,B S⟩:Con I))(hwf:ji (⟨c.f,c.inS,c.cst,c.outS,c.k,fun _=>Option.none⟩:Con I)=true:=by kernel_rfl):ZP Tryz.prog (⟨c.f,c.inS,c.cst,c.outS,c.k,Lv.recE B⟩:Con I):=ZP.recE B hwf hB
theorem qD:CO (ziH strings_IndexByte):=
 okC Tryz.f60 (memC tV zF)
theorem NQ:CO (O8 Uw):=
 okC Tryz.f111 (memC qD zF)
theorem zdf:CO (zdB AR):=
 okC Tryz.f157 (memC NQ zF) (cuts:=[(2,⟨[8],⟨[.int .i64],[]⟩,[0,1,7],[],[],0,[],⟨[],[]⟩,[]⟩)])
theorem zck:CO (zcy wQ):=
 okC Tryz.f110 (memC zdf zF)
theorem O4:CO (sZ mO):=
 okC Tryz.f72 (memC zck zF)
theorem P7:CO (G6 PP):=
 okC Tryz.f71 (memC O4 zF)
theorem zec:CO (zeD sQ):=
 okC Tryz.f109 (memC P7 zF) (cuts:=[(2,⟨[8],⟨[.int .i64],[]⟩,[0,1,7],[],[],0,[],⟨[],[]⟩,[]⟩)])
theorem zcV:CO (zc6 xQ):=
 okC Tryz.f70 (memC zec zF)
theorem E9(Qh:List zu->Option Int)(hs:CO (gB Qh)):CO (gB (mH Qh)):=
 okC Tryz.f73 (memC hs zF) (cuts:=[(3,⟨[3,14],⟨[.int .i64, .int .i64],[]⟩,[2,12,13],[],[],0,[3],⟨[.int .i64],[]⟩,[]⟩),(6,⟨[3,21],⟨[.int .i64, .int .i64],[]⟩,[14,19,20],[],[],2,[3],⟨[.int .i64],[]⟩,[]⟩),(9,⟨[3,28],⟨[.int .i64, .int .i64],[]⟩,[21,26,27],[],[],4,[3],⟨[.int .i64],[]⟩,[]⟩)]) (joins:=[(15,⟨[3,28],⟨[.int .i64, .int .i64],[]⟩,[],[],[],0,[],⟨[],[]⟩,[]⟩)])
theorem G9:CO (gB Qh):=recC (gB Qh) (mH) (fun S h=>E9 S h)
theorem MQ:CO (J6 Dt):=
 okC Tryz.f225 (memC qD zF)
theorem SQ:CO (V8 Lt):=
 okC Tryz.f221 (memC MQ zF)
theorem Z4:CO (U1 ZJ):=
 okC Tryz.f38 zF (cuts:=[(3,⟨[10],⟨[.int .i64],[(0, .sl 5)]⟩,[2,3,8,9],[],[0],0,[],⟨[],[(0, .sl 5)]⟩,[0]⟩)]) (joins:=[(7,⟨[10],⟨[.int .i64],[(0, .sl 5)]⟩,[],[],[0],0,[],⟨[],[]⟩,[]⟩)])
theorem PQ:CO (P8 Jt):=
 okC Tryz.f197 (memC SQ (memC Z4 zF))
theorem R9:CO (X8 TB):=
 okC Tryz.f222 zF (joins:=[(4,⟨[6],⟨[.bool],[]⟩,[1,5],[0],[],0,[],⟨[],[]⟩,[]⟩),(7,⟨[11],⟨[.bool],[]⟩,[],[],[],0,[],⟨[],[]⟩,[]⟩),(10,⟨[14],⟨[.bool],[]⟩,[],[],[],0,[],⟨[],[]⟩,[]⟩)])
theorem rH:CO (zjw qZ):=
 okC Tryz.f223 zF (exS:=⟨[.optr 0, .bool],[(0, .row 197)]⟩)
theorem WZ:CO (kY RA):=
 okC Tryz.f235 zF
theorem dP:CO (OY mr):=
 okC Tryz.f226 (memC WZ zF)
theorem ziY(zx:zu×zg×Bool->Option Bool)(h_seltext_whole:CO (ZQ zx)):CO (zjx (nH zx)):=
 okC Tryz.f224 (memC h_seltext_whole zF) (p:=2)
theorem zcW(zx:zu×zg×Bool->Option Bool)(h_seltext_whole:CO (ZQ zx)):CO (zc7 (Qz zx)):=
 okC Tryz.f158 (memC (ziY zx h_seltext_whole) zF) (p:=2) (cuts:=[(2,⟨[8],⟨[.int .i64],[]⟩,[0,1,7],[],[],0,[],⟨[],[]⟩,[]⟩)])
theorem zb4(zx:zu×zg×Bool->Option Bool)(h_seltext_whole:CO (ZQ zx)):CO (zb8 (qf zx)):=
 okC Tryz.f112 (memC (zcW zx h_seltext_whole) zF) (p:=2)
theorem H9(zx:zu×zg×Bool->Option Bool)(h_seltext_whole:CO (ZQ zx)):CO (K9 (ow zx)):=
 okC Tryz.f198 (memC R9 (memC rH (memC (zb4 zx h_seltext_whole) (memC SQ (memC PQ (memC MQ (memC dP zF))))))) (joins:=[(8,⟨[],⟨[],[]⟩,[2],[0],[],0,[],⟨[],[]⟩,[]⟩),(15,⟨[89],⟨[.bool],[]⟩,[10,88],[],[],0,[],⟨[],[]⟩,[]⟩)])
theorem gQ(zx:zu×zg×Bool->Option Bool)(h_seltext_whole:CO (ZQ zx)):CO (zju (QA zx)):=
 okC Tryz.f161 (memC PQ (memC (H9 zx h_seltext_whole) zF)) (cuts:=[(4,⟨[30],⟨[.int .i64],[]⟩,[2,3,28,29],[0,1],[],0,[],⟨[],[]⟩,[]⟩)])
theorem V9(zx:zu×zg×Bool->Option Bool)(h_seltext_whole:CO (ZQ zx)):CO (p9 (kH zx)):=
 okC Tryz.f160 (memC (gQ zx h_seltext_whole) zF) (p:=1)
theorem zde(zx:zu×zg×Bool->Option Bool)(h_seltext_whole:CO (ZQ zx)):CO (zdA (QK zx)):=
 okC Tryz.f196 (memC (V9 zx h_seltext_whole) zF) (p:=1) (cuts:=[(2,⟨[8],⟨[.int .i64],[]⟩,[0,1,7],[],[],0,[],⟨[],[]⟩,[]⟩)])
theorem zcj(zx:zu×zg×Bool->Option Bool)(h_seltext_whole:CO (ZQ zx)):CO (zcx (qp zx)):=
 okC Tryz.f159 (memC (zde zx h_seltext_whole) zF) (p:=1)
theorem I8(zx:zu×zg×Bool->Option Bool)(hs:CO (ZQ zx)):CO (ZQ (jB zx)):=
 okC Tryz.f114 (memC (zcj zx hs) zF) (cuts:=[(4,⟨[38],⟨[.int .i64],[]⟩,[3,4,36,37],[0,1],[],0,[],⟨[],[]⟩,[]⟩)])
theorem OQ:CO (ZQ zx):=recC (ZQ zx) (jB) (fun S h=>I8 S h)
theorem W9:CO (r9 KQ):=
 okC Tryz.f113 (memC OQ zF)
theorem zdU:CO (zd6 tQ):=
 okC Tryz.f158 (memC W9 zF) (cuts:=[(2,⟨[8],⟨[.int .i64],[]⟩,[0,1,7],[],[],0,[],⟨[],[]⟩,[]⟩)])
theorem zcK:CO (zcS yQ):=
 okC Tryz.f112 (memC zdU zF)
theorem K8(qP:List zu->Option Int)(hs:CO (yB qP)):CO (yB (uB qP)):=
 okC Tryz.f115 (memC hs zF) (cuts:=[(3,⟨[3,14],⟨[.int .i64, .int .i64],[]⟩,[2,12,13],[],[],0,[3],⟨[.int .i64],[]⟩,[]⟩),(6,⟨[3,21],⟨[.int .i64, .int .i64],[]⟩,[14,19,20],[],[],2,[3],⟨[.int .i64],[]⟩,[]⟩),(9,⟨[3,28],⟨[.int .i64, .int .i64],[]⟩,[21,26,27],[],[],4,[3],⟨[.int .i64],[]⟩,[]⟩)])
theorem TQ:CO (yB qP):=recC (yB qP) (uB) (fun S h=>K8 S h)
theorem S9:CO (Y8 jP):=
 okC Tryz.f74 (memC zcK (memC TQ zF))
theorem R4:CO (uZ VA):=
 okC Tryz.f75 zF
theorem dH:CO (U0 Ws):=
 okC Tryz.f24 zF (joins:=[(7,⟨[6],⟨[.bool],[]⟩,[0],[],[],0,[],⟨[],[]⟩,[]⟩)])
theorem GY(yj:List za×Int->Option ZA)(hs:CO (dA yj)):CO (dA (XA yj)):=
 okC Tryz.f116 (memC dH (memC hs zF)) (cuts:=[(3,⟨[12],⟨[.int .i64],[(1, .row 200)]⟩,[1,4,5,10,11],[0],[1],0,[],⟨[],[(1, .row 200)]⟩,[1]⟩)]) (joins:=[(9,⟨[],⟨[],[(1, .row 200)]⟩,[7,8,12],[2],[1],0,[],⟨[],[]⟩,[]⟩),(12,⟨[12],⟨[.int .i64],[(1, .row 200)]⟩,[],[],[1],0,[],⟨[],[]⟩,[]⟩)]) (exS:=⟨[.optr 0],[(0, .row 200)]⟩)
theorem YP:CO (dA yj):=recC (dA yj) (XA) (fun S h=>GY S h)
theorem Np:CO (VY aj):=
 okC Tryz.f106 (memC YP zF)
theorem aH:CO (UY Ms):=
 okC Tryz.f76 (memC Np (memC YP zF))
theorem I4(Nl:List za×List zk->Option (List zk))(hs:CO (cB Nl)):CO (cB (WB Nl)):=
 okC Tryz.f162 (memC dH (memC hs zF)) (fz:=[(4,[3]),(7,[6])]) (p:=1) (cuts:=[(2,⟨[0,10],⟨[.own 1001, .int .i64],[(1001, .sl 59)]⟩,[4,8,9],[],[],0,[0],⟨[.own 1001],[(1001, .sl 59)]⟩,[1001]⟩)]) (joins:=[(8,⟨[0,10],⟨[.own 1103, .int .i64],[(1103, .sl 59)]⟩,[],[],[],0,[],⟨[],[]⟩,[]⟩)])
theorem D7:CO (cB Nl):=recC (cB Nl) (WB) (fun S h=>I4 S h)
theorem F7:CO (O0 YA):=
 okC Tryz.f162 (memC dH (memC D7 zF)) (fz:=[(4,[3]),(7,[6])]) (cuts:=[(2,⟨[0,10],⟨[.own 1105, .int .i64],[(1105, .sl 59)]⟩,[4,8,9],[],[],0,[0],⟨[.own 1105],[(1105, .sl 59)]⟩,[1105]⟩)]) (joins:=[(8,⟨[0,10],⟨[.own 1207, .int .i64],[(1207, .sl 59)]⟩,[],[],[],0,[],⟨[],[]⟩,[]⟩)])
theorem aP:CO (UX Yv):=
 okC Tryz.f117 (memC Np (memC F7 zF))
theorem QX:CO (zfI stringslite_HasPrefix):=
 okC Tryz.f88 zF
theorem qC:CO (ziG strings_HasPrefix):=
 okC Tryz.f47 (memC QX zF)
theorem TZ:CO (dY LA):=
 okC Tryz.f118 (memC qD (memC qC (memC Z4 zF)))
theorem zeN:CO (zeZ stringslite_TrimPrefix):=
 okC Tryz.f236 (memC QX zF)
theorem zhd:CO (zhY strings_TrimPrefix):=
 okC Tryz.f227 (memC zeN zF)
theorem kP:CO (YY Ps):=
 okC Tryz.f228 zF
theorem E8:CO (X6 JB):=
 okC Tryz.f199 (memC zhd (memC kP zF))
theorem J7:CO (J2 sO):=
 okC Tryz.f229 zF
theorem OZ:CO (XY KA):=
 okC Tryz.f200 (memC J7 (memC kP zF))
theorem ziZ:CO (zjy strings_Contains):=
 okC Tryz.f201 (memC Yz zF)
theorem vX:CO (WX nz):=
 okC Tryz.f163 (memC qD (memC E8 (memC qC (memC OZ (memC ziZ zF))))) (joins:=[(8,⟨[3,4,5,6,7,25],⟨[.bool, .bool, .bool, .bool, .bool, .bool],[]⟩,[1,16],[],[],0,[],⟨[],[]⟩,[]⟩),(14,⟨[3,4,5,6,7,63],⟨[.bool, .bool, .bool, .bool, .bool, .bool],[]⟩,[],[],[],0,[],⟨[],[]⟩,[]⟩),(22,⟨[4,5,6,7,94],⟨[.bool, .bool, .bool, .bool, .bool],[]⟩,[3],[],[],0,[],⟨[],[]⟩,[]⟩),(24,⟨[3,4,5,6,7],⟨[.bool, .bool, .bool, .bool, .bool],[]⟩,[1],[0],[],0,[],⟨[],[]⟩,[]⟩)])
theorem D8:CO (V6 Q7):=
 okC Tryz.f202 zF (p:=1)
theorem QI:CO (Y1 ZW):=
 okC Tryz.f95 (memC Z4 zF)
theorem NZ:CO (WY JA):=
 okC Tryz.f164 (memC D8 (memC QI zF)) (joins:=[(11,⟨[5],⟨[.int .i64],[]⟩,[3],[0],[],0,[],⟨[],[]⟩,[]⟩)])
theorem PZ:CO (aY Ew):=
 okC Tryz.f119 (memC vX (memC NZ zF)) (cuts:=[(4,⟨[10],⟨[.int .i64],[]⟩,[0,8,9],[],[],0,[],⟨[],[]⟩,[]⟩)])
theorem vo:CO (vV qX):=
 okC Tryz.f123 zF
theorem zk9(Zh:List za->Option Bool)(h_decl_closers:CO (QH Zh)):CO (L9 (jw Zh)):=
 okC Tryz.f165 (memC vo (memC h_decl_closers zF))
theorem zeM(Zh:List za->Option Bool)(h_decl_closers:CO (QH Zh)):CO (zeY (vH Zh)):=
 okC Tryz.f61 (memC (zk9 Zh h_decl_closers) zF) (cuts:=[(2,⟨[8],⟨[.int .i64],[]⟩,[0,1,7],[],[],0,[],⟨[],[]⟩,[]⟩)])
theorem zdd(Zh:List za->Option Bool)(h_decl_closers:CO (QH Zh)):CO (zdz (QJ Zh)):=
 okC Tryz.f121 (memC (zeM Zh h_decl_closers) zF)
theorem I5(Zh:List za->Option Bool)(hs:CO (QH Zh)):CO (QH (YB Zh)):=
 okC Tryz.f120 (memC (zdd Zh hs) zF)
theorem F8:CO (QH Zh):=recC (QH Zh) (YB) (fun S h=>I5 S h)
theorem bP:CO (JY mo):=
 okC Tryz.f124 (memC vo zF)
theorem G8:CO (D5 LB):=
 okC Tryz.f122 (memC vo (memC bP zF))
theorem zdV:CO (zd7 QZ):=
 okC Tryz.f61 (memC G8 zF) (cuts:=[(2,⟨[8],⟨[.int .i64],[]⟩,[0,1,7],[],[],0,[],⟨[],[]⟩,[]⟩)])
theorem zcL:CO (zcT qA):=
 okC Tryz.f121 (memC zdV zF)
theorem bH:CO (eY yo):=
 okC Tryz.f77 (memC aP (memC TZ (memC PZ (memC F8 (memC zcL (memC qC (memC vo zF)))))))
theorem X3(ym:zt->Option Int)(hs:CO (bB ym)):CO (bB (SH ym)):=
 okC Tryz.f78 (memC hs zF) (cuts:=[(5,⟨[3,17],⟨[.int .i64, .int .i64],[]⟩,[15,16],[],[],0,[3],⟨[.int .i64],[]⟩,[]⟩)]) (joins:=[(4,⟨[3],⟨[.int .i64],[]⟩,[1],[0],[],0,[],⟨[],[]⟩,[]⟩)])
theorem V4:CO (bB ym):=recC (bB ym) (SH) (fun S h=>X3 S h)
theorem IB:CO (LY Ml):=
 okC Tryz.f128 zF
theorem xH:CO (zgT slices_Index_string):=
 okC Tryz.f219 zF (cuts:=[(2,⟨[8],⟨[.int .i64],[]⟩,[0,1,7],[],[],0,[],⟨[],[]⟩,[]⟩)])
theorem zeL:CO (zeX slices_Contains_string):=
 okC Tryz.f193 (memC xH zF)
theorem FQ:CO (Y4 Nw):=
 okC Tryz.f154 (memC zeL (memC Z4 (memC qD zF))) (fz:=[(1,[0])])
theorem J5:CO (U2 wG):=
 okC Tryz.f220 zF (cuts:=[(2,⟨[7],⟨[.int .i64],[]⟩,[5,6],[],[],0,[],⟨[],[]⟩,[]⟩)])
theorem EQ:CO (X4 Jp):=
 okC Tryz.f194 (memC J5 zF) (fz:=[(1,[1])])
theorem UZ:CO (gY lG):=
 okC Tryz.f167 (memC IB (memC FQ (memC EQ zF))) (cuts:=[(4,⟨[23],⟨[.int .i64],[]⟩,[21,22],[],[],0,[],⟨[],[]⟩,[]⟩)]) (joins:=[(17,⟨[57],⟨[.bool],[]⟩,[4,23],[1],[],0,[],⟨[],[]⟩,[]⟩),(19,⟨[23],⟨[.int .i64],[]⟩,[],[],[],0,[],⟨[],[]⟩,[]⟩)])
theorem VZ:CO (iY kN):=
 okC Tryz.f168 zF
theorem AY:CO (NY PN):=
 okC Tryz.f127 (memC IB (memC UZ (memC VZ zF)))
theorem zh6:CO (ziA fQ):=
 okC Tryz.f126 (memC AY zF)
theorem zfi:CO (zfG jQ):=
 okC Tryz.f166 (memC zh6 zF) (cuts:=[(2,⟨[8],⟨[.int .i64],[]⟩,[0,1,7],[],[],0,[],⟨[],[]⟩,[]⟩)])
theorem zdT:CO (zd5 uQ):=
 okC Tryz.f125 (memC zfi zF)
theorem zj9:CO (zkF VQ):=
 okC Tryz.f79 (memC zdT (memC IB zF))
theorem XZ(om:zt->Option Int)(hs:CO (MB om)):CO (MB (JH om)):=
 okC Tryz.f80 (memC aH (memC hs zF)) (cuts:=[(9,⟨[5,27],⟨[.int .i64, .int .i64],[]⟩,[2,25,26],[],[],1,[5],⟨[.int .i64],[]⟩,[]⟩)]) (joins:=[(14,⟨[5,8],⟨[.int .i64, .int .i64],[]⟩,[27],[],[],0,[],⟨[],[]⟩,[]⟩)])
theorem fZ:CO (MB om):=recC (MB om) (JH) (fun S h=>XZ S h)
theorem yX:CO (KY rz):=
 okC Tryz.f169 zF
theorem HY(bi:zt×Int->Option ((Int×Bool)×Int))(hs:CO (fA bi)):CO (fA (Bt bi)):=
 okC Tryz.f129 (memC aH (memC bH (memC IB (memC hs (memC yX zF))))) (p:=1) (cuts:=[(19,⟨[9,97],⟨[.int .i64, .int .i64],[(0, .row 3)]⟩,[1,95,96],[],[0],1,[9],⟨[.int .i64],[(0, .row 3)]⟩,[0]⟩)]) (joins:=[(15,⟨[69],⟨[.bool],[]⟩,[1,2,6],[0,1],[],0,[],⟨[],[]⟩,[]⟩),(26,⟨[9,12],⟨[.int .i64, .int .i64],[]⟩,[97],[0],[],0,[],⟨[],[]⟩,[]⟩)])
theorem xX:CO (fA bi):=recC (fA bi) (Bt) (fun S h=>HY S h)
theorem nQ:CO (zhV QC):=
 okC Tryz.f81 (memC xX zF)
theorem YZ(Xm:List zJ->Option Zg)(hs:CO (NB Xm)):CO (NB (LH Xm)):=
 okC Tryz.f43 (memC hs (memC zcV (memC G9 (memC S9 (memC R4 (memC aH (memC bH (memC V4 (memC zj9 (memC fZ (memC nQ zF))))))))))) (cuts:=[(3,⟨[18],⟨[.int .i64],[(1, .row 118)]⟩,[2,3,16,17],[0],[1],0,[],⟨[],[(1, .row 118)]⟩,[1]⟩),(17,⟨[10,87],⟨[.bool, .int .i64],[(3, .row 118)]⟩,[6,7,18,85,86],[1],[3],3,[10],⟨[.bool],[(3, .row 118)]⟩,[3]⟩)]) (joins:=[(35,⟨[7,10],⟨[.int .i64, .bool],[(1, .row 118),(3, .row 118)]⟩,[6,18],[],[1,3],0,[],⟨[],[]⟩,[]⟩)]) (exS:=⟨[.optr 0],[(0, .row 118)]⟩)
theorem EZ:CO (NB Xm):=recC (NB Xm) (LH) (fun S h=>YZ S h)
theorem U4:CO (vZ nO):=
 okC Tryz.f31 (memC EZ zF)
theorem Y6:CO (wZ xO):=
 okC Tryz.f17 (memC U4 zF)
theorem BR:CO (ze0 Zz):=
 okC Tryz.f35 (memC qC (memC Yz zF)) (p:=1) (cuts:=[(0,⟨[],⟨[],[(0, .row 104)]⟩,[0],[],[0],0,[],⟨[],[(0, .row 104)]⟩,[0]⟩)])
theorem zY:CO (zh1 zm):=
 okC Tryz.f49 zF (p:=1)
theorem sw:CO (kZ Bp):=
 okC Tryz.f50 zF
theorem wH:CO (zgV Z0):=
 okC Tryz.f51 (memC zY (memC sw zF)) (p:=1) (cuts:=[(0,⟨[],⟨[],[(0, .row 104)]⟩,[0,1],[],[0],0,[],⟨[],[(0, .row 104)]⟩,[0]⟩)])
theorem zdh:CO (zdD QM):=
 okC Tryz.f180 zF (fz:=[(2,[1]),(4,[9]),(7,[14]),(9,[19])]) (joins:=[(7,⟨[25],⟨[.bool],[]⟩,[0,1,5],[],[],0,[],⟨[],[]⟩,[]⟩)])
theorem zif:CO (ziL Qk):=
 okC Tryz.f139 (memC zdh zF) (fz:=[(2,[3])])
theorem vB:CO (V5 Q9):=
 okC Tryz.f141 zF
theorem uw:CO (mZ Qv):=
 okC Tryz.f92 (memC vB zF)
theorem WP:CO (PX Nr):=
 okC Tryz.f140 (memC uw (memC vB zF))
theorem zed:CO (zeE Qg):=
 okC Tryz.f90 (memC zY (memC zif (memC WP (memC sw zF)))) (fz:=[(7,[3])]) (p:=1) (cuts:=[(10,⟨[6,36],⟨[.int .i64, .int .i64],[(0, .row 104)]⟩,[0,1,4],[],[0],0,[6],⟨[.int .i64],[(0, .row 104)]⟩,[0]⟩)]) (joins:=[(17,⟨[6],⟨[.int .i64],[(0, .row 104)]⟩,[1],[],[0],0,[],⟨[],[]⟩,[]⟩),(19,⟨[6],⟨[.int .i64],[]⟩,[],[0],[],0,[],⟨[],[]⟩,[]⟩)])
theorem zdi:CO (zdE QN):=
 okC Tryz.f180 zF (fz:=[(2,[1]),(4,[9]),(7,[14]),(9,[19])]) (p:=1) (joins:=[(7,⟨[25],⟨[.bool],[(0, .sl 5)]⟩,[0,1,5],[],[0],0,[],⟨[],[]⟩,[]⟩)])
theorem zih:CO (ziM Ql):=
 okC Tryz.f139 (memC zdi zF) (fz:=[(2,[3])]) (p:=1)
theorem Qx:CO (zeF Z5):=
 okC Tryz.f90 (memC zY (memC zih (memC WP (memC sw zF)))) (fz:=[(7,[3])]) (p:=2) (cuts:=[(10,⟨[6,36],⟨[.int .i64, .int .i64],[(0, .row 104)]⟩,[0,1,4],[1],[0],0,[6],⟨[.int .i64],[(0, .row 104)]⟩,[0]⟩)]) (joins:=[(17,⟨[6],⟨[.int .i64],[(0, .row 104),(1, .sl 5)]⟩,[1],[],[0,1],0,[],⟨[],[]⟩,[]⟩),(19,⟨[6],⟨[.int .i64],[(1, .sl 5)]⟩,[],[0],[1],0,[],⟨[],[]⟩,[]⟩)])
theorem zf4:CO (zgA QR):=
 okC Tryz.f52 (memC zY (memC Qx zF)) (fz:=[(5,[3])]) (p:=1) (cuts:=[(4,⟨[4],⟨[.own 1208],[(0, .row 104),(1, .row 59),(1208, .sl 5)]⟩,[0,2,3],[],[0,1],0,[4],⟨[.own 1208],[(0, .row 104),(1, .row 59),(1208, .sl 5)]⟩,[0,1,1208]⟩)]) (exS:=⟨[.optr 1],[(0, .row 104),(1, .row 59)]⟩)
theorem AQ:CO (lZ Ow):=
 okC Tryz.f91 (memC vB zF)
theorem LQ:CO (l5 nA):=
 okC Tryz.f53 (memC AQ (memC uw zF))
theorem qy:CO (zgy Zo):=
 okC Tryz.f54 (memC zY zF) (p:=1)
theorem lQ:CO (zhZ Zq):=
 okC Tryz.f55 (memC zY (memC AQ (memC qy zF))) (p:=1)
theorem BI:CO (zh2 ZL):=
 okC Tryz.f56 (memC zY (memC LQ (memC qy (memC Qx zF)))) (fz:=[(5,[3])]) (p:=1) (cuts:=[(2,⟨[3],⟨[.own 1209],[(0, .row 104),(1209, .sl 5)]⟩,[0],[],[0],0,[],⟨[],[]⟩,[]⟩)])
theorem zf3:CO (zgz qE):=
 okC Tryz.f57 (memC zY (memC uw zF)) (p:=1) (joins:=[(5,⟨[3],⟨[.int .i64],[]⟩,[0],[],[],0,[],⟨[],[]⟩,[]⟩),(7,⟨[3],⟨[.int .i64],[]⟩,[],[],[],0,[],⟨[],[]⟩,[]⟩)])
theorem zfm:CO (zfL ZC):=
 okC Tryz.f51 (memC zY (memC uw zF)) (p:=1) (cuts:=[(0,⟨[],⟨[],[(0, .row 104)]⟩,[0,1],[],[0],0,[],⟨[],[(0, .row 104)]⟩,[0]⟩)])
theorem zfk:CO (zfJ QG):=
 okC Tryz.f93 (memC zY (memC zfm (memC uw zF))) (p:=1) (joins:=[(4,⟨[],⟨[],[(0, .row 104)]⟩,[0],[],[0],0,[],⟨[],[]⟩,[]⟩),(10,⟨[4],⟨[.bool],[(0, .row 104)]⟩,[],[],[0],0,[],⟨[],[]⟩,[]⟩),(15,⟨[4,5],⟨[.bool, .int .i64],[(0, .row 104)]⟩,[],[],[0],0,[],⟨[],[]⟩,[]⟩),(19,⟨[4],⟨[.bool],[(0, .row 104)]⟩,[],[],[0],0,[],⟨[],[]⟩,[]⟩)])
theorem zie:CO (ziK EC):=
 okC Tryz.f94 (memC dU (memC uX (memC zEU zF))) (cuts:=[(8,⟨[6,31],⟨[.int .i64, .int .i64],[]⟩,[0,2,3,4,5,29,30],[0],[],0,[6],⟨[.int .i64],[]⟩,[]⟩),(22,⟨[12,81],⟨[.int .i64, .int .i64],[]⟩,[4,79,80],[0],[],2,[12],⟨[.int .i64],[]⟩,[]⟩),(26,⟨[4,12],⟨[.int .i64, .int .i64],[]⟩,[],[],[],4,[12],⟨[.int .i64],[]⟩,[]⟩)]) (joins:=[(14,⟨[0,4,6],⟨[.str, .int .i64, .int .i64],[]⟩,[3,5],[],[],0,[],⟨[],[]⟩,[]⟩),(15,⟨[0,4],⟨[.str, .int .i64],[]⟩,[3],[],[],0,[],⟨[],[]⟩,[]⟩),(20,⟨[0,4],⟨[.str, .int .i64],[]⟩,[],[],[],0,[],⟨[],[]⟩,[]⟩),(31,⟨[12],⟨[.int .i64],[]⟩,[],[],[],0,[],⟨[],[]⟩,[]⟩)])
theorem zfl:CO (zfK qR):=
 okC Tryz.f58 (memC zfk (memC zie (memC lQ (memC BI (memC zY zF))))) (p:=1) (joins:=[(9,⟨[],⟨[],[(0, .row 104),(1, .row 59),(2, .row 59)]⟩,[2,5],[],[0,1,2],0,[],⟨[],[]⟩,[]⟩)]) (exS:=⟨[.optr 1],[(0, .row 104),(1, .row 59)]⟩)
theorem zib:CO (ziI Qj):=
 okC Tryz.f145 (memC zY (memC qy (memC zed zF))) (p:=1) (cuts:=[(1,⟨[],⟨[],[(0, .row 104),(1, .row 59)]⟩,[0,2],[],[0,1],0,[],⟨[],[]⟩,[]⟩)]) (exS:=⟨[.optr 1],[(0, .row 104),(1, .row 59)]⟩)
theorem zic:CO (ziJ FC):=
 okC Tryz.f96 (memC wH (memC zY (memC sw (memC zib (memC vB (memC qy (memC Qx zF))))))) (fz:=[(18,[3])]) (p:=1) (cuts:=[(3,⟨[3],⟨[.own 1210],[(0, .row 104),(1, .row 59),(1210, .sl 5)]⟩,[0,2],[],[0,1],0,[],⟨[],[]⟩,[]⟩)]) (joins:=[(10,⟨[3,4],⟨[.own 1210, .int .i64],[(0, .row 104),(1, .row 59),(1210, .sl 5)]⟩,[],[],[0,1,1210],0,[],⟨[],[]⟩,[]⟩)]) (exS:=⟨[.optr 1],[(0, .row 104),(1, .row 59)]⟩)
theorem zgJ:CO (zgU qO):=
 okC Tryz.f59 (memC BI (memC zY (memC QI (memC wH (memC zic zF))))) (p:=1) (joins:=[(11,⟨[],⟨[],[(0, .row 104),(1, .row 59)]⟩,[2,3],[],[0,1],0,[],⟨[],[]⟩,[]⟩)]) (exS:=⟨[.optr 1],[(0, .row 104),(1, .row 59)]⟩)
theorem kQ:CO (zh0 qB):=
 okC Tryz.f36 (memC zY (memC sw (memC wH (memC zf4 (memC LQ (memC qy (memC lQ (memC BI (memC zf3 (memC zfl (memC qC (memC zgJ (memC qD zF))))))))))))) (p:=1) (exS:=⟨[.optr 1],[(0, .row 104),(1, .row 59)]⟩)
theorem zi0:CO (zjz dB):=
 okC Tryz.f21 zF (fz:=[(1,[2])]) (p:=2)
theorem N7:CO (Y5 jA):=
 okC Tryz.f20 (memC EG (memC BR (memC kQ (memC zi0 zF)))) (p:=1) (cuts:=[(7,⟨[7],⟨[.int .i64],[(0, .cells 49 [.own 1211]),(1211, .sl 59),(1, .row 104)]⟩,[0,1,6],[],[0,1],0,[],⟨[],[(0, .cells 49 [.own 1211]),(1211, .sl 59),(1, .row 104)]⟩,[0,1,1211]⟩)])
theorem gH:CO (D6 Rp):=
 okC Tryz.f11 (memC N7 zF)
theorem FZ:CO (vY vv):=
 okC Tryz.f37 zF
theorem zhc:CO (zhX tH):=
 okC Tryz.f98 zF (p:=1) (cuts:=[(2,⟨[8],⟨[.int .i64],[]⟩,[0,1,7],[],[],0,[],⟨[],[]⟩,[]⟩)])
theorem zfh:CO (zfF QF):=
 okC Tryz.f63 (memC zhc zF) (p:=1)
theorem M9:CO (M8 RH):=
 okC Tryz.f62 (memC zfh zF) (p:=2)
theorem zdW:CO (zd8 qV):=
 okC Tryz.f61 (memC M9 zF) (p:=2) (cuts:=[(2,⟨[8],⟨[.int .i64],[]⟩,[0,1,7],[],[],0,[],⟨[],[]⟩,[]⟩)])
theorem K4:CO (oZ UA):=
 okC Tryz.f39 (memC zdW zF) (p:=1)
theorem qF:CO (zgR zZ):=
 okC Tryz.f215 zF (p:=1) (exS:=⟨[.optr 1],[(1, .row 59)]⟩)
theorem QW:CO (zfE Zj):=
 okC Tryz.f213 (memC qF zF) (p:=1) (cuts:=[(2,⟨[],⟨[],[(0, .row 288)]⟩,[0,2,3],[],[0],0,[],⟨[],[(0, .row 288)]⟩,[0]⟩)])
theorem yH:CO (zgN ZZ):=
 okC Tryz.f216 (memC qF zF) (p:=1)
theorem zgG:CO (zgO qM):=
 okC Tryz.f214 (memC yH (memC QW zF)) (p:=1) (cuts:=[(2,⟨[4],⟨[.int .i64],[(0, .row 288)]⟩,[0],[],[0],0,[],⟨[],[(0, .row 288)]⟩,[0]⟩)])
theorem zgH:CO (zgQ Qt):=
 okC Tryz.f232 zF (p:=1)
theorem vQ:CO (zgP qN):=
 okC Tryz.f218 zF (p:=1)
theorem V7:CO (L6 uA):=
 okC Tryz.f231 (memC QW (memC qF (memC Z4 (memC vQ (memC yH (memC Yz (memC QI zF))))))) (joins:=[(20,⟨[],⟨[],[(0, .cells 190 [.int .u8, .str, .int .u8, .str, .bool, .int .i64, .int .i64, .bool, .nilv]),(1, .row 288),(2, .cells 190 [.int .u8, .str, .int .u8, .str, .bool, .int .i64, .int .i64, .bool, .nilv])]⟩,[2,4,5],[],[0,1,2],0,[],⟨[],[]⟩,[]⟩)]) (exS:=⟨[.optr 0, .bool],[(0, .row 190)]⟩)
theorem RQ:CO (U8 Ww):=
 okC Tryz.f237 zF (fz:=[(1,[0])])
end Go.Lv.VT
end
