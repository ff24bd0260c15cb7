import Derived.Test.YtiidaccdmolmkaaGreatDoorTx
import Derived.Test.YtiidaccdmolmkaaGreatDoorPa
import Derived.Test.YtiidaccdmolmkaaGreatDoorCw
set_option linter.all false
noncomputable section
namespace Go.Lv.VT
set_option maxRecDepth 100000
open Go.Proofs
abbrev dc(a:List Nat)(b:List Sh)(c:List Nat)(n:Nat):Cut:=⟨a,⟨b,[]⟩,c,[],[],n,[],⟨[],[]⟩,[]⟩
abbrev fS(a:List Nat)(b:List Sh)(c:List Nat)(n:Nat)(d:List Nat)(e:List Sh):Cut:=⟨a,⟨b,[]⟩,c,[],[],n,d,⟨e,[]⟩,[]⟩
def K0(f:Nat)(i o:List Sh)(F:((⟨i,[]⟩:du).sl I).T->Option ((⟨o,[]⟩:du).sl I).T):Con I:=⟨f,⟨i,[]⟩,[],⟨o,[]⟩,0,F⟩
abbrev CO(c:Con I):Prop:=ZH Tryz.prog c
def xH:=K0 37 [.sl 100, .int .i64] [.int .i64]
def zxx:=K0 22 [.sl 100] [.bool]
def BI:=K0 38 [.sl 118, .int .i64] [.int .i64]
def zuV:=K0 63 [.int .u8] [.int .u8]
def EI:=K0 39 [.sl 118] [.int .i64]
def zxr:=K0 23 [.sl 26] [.bool]
def uH:=K0 40 [.val 29, .int .i64] [.int .i64]
def tH:=K0 41 [.val 29] [.bool]
def zxC:=K0 24 [.val 29] [.bool]
def XJ:=K0 12 [.sl 33, .int .i64] [.bool]
def IJ:=K0 13 [.sl 33] [.int .i64]
def zxG:=K0 4 [.sl 33] [.bool]
def zm7:=K0 106 [.str, .int .u8] [.int .i64]
def zsn:=K0 105 [.str] [.bool]
def zgj:=K0 156 [.sl 9, .clo 105 []] [.int .i64]
def ze4:=K0 104 [.sl 9, .clo 105 []] [.bool]
def zxQ:=K0 66 [.sl 9] [.bool]
def zvc:=K0 65 [.sl 9] [.bool]
def zhL:=K0 103 [.sl 42, .clo 65 []] [.int .i64]
def zfz:=K0 64 [.sl 42, .clo 65 []] [.bool]
def IK:=K0 67 [.sl 100] [.int .i64]
def zvb:=K0 236 [.str, .int .i64] [.bool]
def zsk:=K0 232 [.str] [.bool]
def zxb:=K0 164 [.str] [.str]
def zsm:=K0 199 [.str] [.bool]
def zsj:=K0 233 [.val 110] [.bool, .bool]
def znS:=K0 234 [.val 155, .int .u8] [.val 155, .bool]
def zAD:=K0 242 [.int .i64] [.bool]
def zDd:=K0 208 [.val 108] [.int .i64]
def znT(F:zm×zB×zH->Option Bool):Con I:=⟨235,⟨[.val 100, .optr 0, .optr 1],[(0, .row 155),(1, .row 110)]⟩,[0,1],⟨[.bool],[]⟩,0,F⟩
def zfA(F:List zm×zB×zH->Option Int):Con I:=⟨158,⟨[.sl 100, .clo 235 [0,1]],[(0, .row 155),(1, .row 110)]⟩,[0,1],⟨[.int .i64],[]⟩,0,F⟩
def zd6(F:List zm×zB×zH->Option Bool):Con I:=⟨107,⟨[.sl 100, .clo 235 [0,1]],[(0, .row 155),(1, .row 110)]⟩,[0,1],⟨[.bool],[]⟩,0,F⟩
def zqR:=K0 200 [.val 110, .val 155] [.bool]
def znR:=K0 161 [.val 104, .val 155] [.bool]
def zpo(F:zU×zB->Option Bool):Con I:=⟨160,⟨[.val 104, .optr 0],[(0, .row 155)]⟩,[0],⟨[.bool],[]⟩,0,F⟩
def zgi(F:List zU×zB->Option Int):Con I:=⟨198,⟨[.sl 104, .clo 160 [0]],[(0, .row 155)]⟩,[0],⟨[.int .i64],[]⟩,0,F⟩
def ze3(F:List zU×zB->Option Bool):Con I:=⟨159,⟨[.sl 104, .clo 160 [0]],[(0, .row 155)]⟩,[0],⟨[.bool],[]⟩,0,F⟩
def ZZ:=K0 109 [.val 100, .val 155, .bool] [.bool]
def zpn:=K0 108 [.val 100] [.bool]
def zg8:=K0 158 [.sl 100, .clo 108 []] [.int .i64]
def zfn:=K0 107 [.sl 100, .clo 108 []] [.bool]
def WJ:=K0 110 [.sl 100] [.int .i64]
def zsi:=K0 68 [.sl 100] [.int .i64]
def zxP:=K0 69 [.val 29] [.bool]
def zxc:=K0 162 [.int .u8] [.int .u8]
def XH:=K0 112 [.sl 118, .int .u8] [.val 159]
def zAQ:=K0 111 [.sl 118] [.int .i64]
def zAR:=K0 70 [.sl 118] [.int .i64, .int .i64]
def UI(F:List zo×List ze->Option (List ze)):Con I:=⟨163,⟨[.own 0, .sl 118],[(0, .sl 116)]⟩,[],⟨[.own 1],[(1, .sl 116)]⟩,1,F⟩
def zxd(F:List zo->Option (List ze)):Con I:=⟨163,⟨[.nilv, .sl 118],[]⟩,[],⟨[.own 0],[(0, .sl 116)]⟩,1,F⟩
def zDp:=K0 113 [.sl 118] [.sl 116, .int .i64]
def ziW:=K0 169 [.str, .str] [.bool]
def zm6:=K0 121 [.str, .str] [.bool]
def zAI:=K0 114 [.str] [.bool]
def zic:=K0 257 [.str, .str] [.str]
def zl1:=K0 237 [.str, .str] [.str]
def zAL:=K0 180 [.int .u8] [.bool]
def zuJ:=K0 201 [.str] [.bool]
def zw5:=K0 213 [.int .u8] [.bool]
def zAO:=K0 179 [.int .u8] [.bool]
def znU:=K0 202 [.str, .str] [.bool]
def zDn:=K0 165 [.val 116] [.bool]
def zuK(F:(Int×Int)×List ze->Option Bool):Con I:=⟨203,⟨[.int .i64, .int .u8, .optr 0],[(0, .row 140)]⟩,[0],⟨[.bool],[]⟩,0,F⟩
def zxa:=K0 204 [.str, .str] [.bool]
def zAP:=K0 166 [.sl 116] [.int .i64]
def zAJ:=K0 115 [.sl 116] [.int .i64]
def zH6:=K0 119 [.val 118, .int .u8] [.bool]
def zqN:=K0 167 [.val 118] [.bool]
def zib:=K0 168 [.sl 118, .clo 167 []] [.int .i64]
def zgh:=K0 117 [.sl 118, .clo 167 []] [.bool]
def Uu:=K0 116 [.sl 118] [.bool]
def zDl:=K0 120 [.val 118] [.bool]
def zuI:=K0 118 [.val 118] [.bool]
def zg9:=K0 168 [.sl 118, .clo 118 []] [.int .i64]
def zfo:=K0 117 [.sl 118, .clo 118 []] [.bool]
def zAH:=K0 71 [.val 26] [.int .i64]
def SI:=K0 72 [.val 29] [.int .i64]
def zDg:=K0 125 [.val 29] [.bool]
def zkf:=K0 259 [.sl 9, .str] [.int .i64]
def zia:=K0 239 [.sl 9, .str] [.bool]
def zw1:=K0 205 [.str] [.bool]
def zw4:=K0 177 [.sl 2] [.int .i64]
def zw2:=K0 206 [.int .i64] [.int .i64]
def zAG:=K0 171 [.val 29] [.bool]
def zAF:=K0 172 [.val 29] [.bool]
def zDf:=K0 124 [.val 29] [.bool]
def zm0:=K0 123 [.val 29] [.bool]
def ziT:=K0 170 [.sl 29, .clo 123 []] [.int .i64]
def zg7:=K0 122 [.sl 29, .clo 123 []] [.bool]
def zpi:=K0 73 [.val 29] [.int .i64]
def oH:=K0 74 [.val 29] [.int .i64]
def zDi:=K0 134 [.val 29] [.bool]
def YH(F:zh×Int->Option ((Int×Bool)×Int)):Con I:=⟨126,⟨[.val 29, .optr 0],[(0, .row 3)]⟩,[],⟨[.int .i64, .bool],[(0, .row 3)]⟩,0,F⟩
def zlY:=K0 75 [.val 29] [.int .i64]
def rH:=K0 42 [.sl 33] [.val 87]
def zxO:=K0 25 [.sl 33] [.int .i64]
def zpp:=K0 14 [.val 33] [.int .i64]
def zd7(F:aE×List UInt8->Option (Int×List UInt8)):Con I:=⟨36,⟨[.optr 0, .str],[(0, .cells 130 [.nop 0 130 2, .own 1]),(1, .sl 5)]⟩,[],⟨[.int .i64, .nili],[(0, .cells 130 [.nop 0 130 2, .own 2]),(2, .sl 5)]⟩,1,F⟩
def zgk(F:Int×List UInt8->Option (List UInt8)):Con I:=⟨127,⟨[.optr 0, .int .u8],[(0, .cells 130 [.nop 0 130 2, .own 1]),(1, .sl 5)]⟩,[],⟨[.nili],[(0, .cells 130 [.nop 0 130 2, .own 2]),(2, .sl 5)]⟩,1,F⟩
def zAM:=K0 136 [.str] [.int .i64]
def zr9(F:Int×List UInt8->Option (List UInt8)):Con I:=⟨181,⟨[.own 0, .int .u8],[(0, .sl 5)]⟩,[],⟨[.own 1],[(1, .sl 5)]⟩,1,F⟩
def zw6(F:aE×Int->Option (List UInt8)):Con I:=⟨135,⟨[.nilv, .str, .int .i64],[]⟩,[],⟨[.own 0],[(0, .sl 5)]⟩,1,F⟩
def zw7(F:(aE×Int)×List UInt8->Option (List UInt8)):Con I:=⟨135,⟨[.own 0, .str, .int .i64],[(0, .sl 5)]⟩,[],⟨[.own 1],[(1, .sl 5)]⟩,1,F⟩
def zsa(F:Int×Bool->Option (List UInt8)):Con I:=⟨240,⟨[.nilv, .int .i64, .bool],[]⟩,[],⟨[.own 0],[(0, .sl 5)]⟩,1,F⟩
def zAN:=K0 241 [] [.val 253]
def zw8(F:ze->Option (List UInt8)):Con I:=⟨207,⟨[.nilv, .val 116],[]⟩,[],⟨[.own 0],[(0, .sl 5)]⟩,1,F⟩
def zGJ:=K0 173 [.val 116] [.str, .int .i64]
def zjY(F:ze×List UInt8->Option (List UInt8)):Con I:=⟨128,⟨[.optr 0, .val 116],[(0, .cells 130 [.nop 0 130 2, .own 1]),(1, .sl 5)]⟩,[],⟨[],[(0, .cells 130 [.nop 0 130 2, .own 2]),(2, .sl 5)]⟩,1,F⟩
def zsl:=K0 174 [] [.sl 9]
def ziX:=K0 266 [.str, .str] [.bool]
def zie:=K0 244 [.str, .str] [.str]
def zl2:=K0 210 [.str, .str] [.str]
def zGG:=K0 175 [.val 108] [.str, .int .i64]
def ziS(F:List zm×List UInt8->Option (List UInt8)):Con I:=⟨76,⟨[.optr 0, .sl 100],[(0, .cells 130 [.nop 0 130 2, .own 1]),(1, .sl 5)]⟩,[],⟨[],[(0, .cells 130 [.nop 0 130 2, .own 2]),(2, .sl 5)]⟩,1,F⟩
def qJ(F:zH×List UInt8->Option (List UInt8)):Con I:=⟨129,⟨[.optr 0, .val 110],[(0, .cells 130 [.nop 0 130 2, .own 1]),(1, .sl 5)]⟩,[],⟨[],[(0, .cells 130 [.nop 0 130 2, .own 2]),(2, .sl 5)]⟩,1,F⟩
def zke(F:List zm->Option (List UInt8)):Con I:=⟨76,⟨[.optr 0, .sl 100],[(0, .cells 130 [.nop 0 130 2, .nilv])]⟩,[],⟨[],[(0, .cells 130 [.nop 0 130 2, .own 1]),(1, .sl 5)]⟩,1,F⟩
def zkg(F:List UInt8->Option Int):Con I:=⟨27,⟨[.optr 0],[(0, .cells 130 [.nop 0 130 2, .own 1]),(1, .sl 5)]⟩,[0,1],⟨[.int .i64],[]⟩,0,F⟩
def zva:=K0 45 [.sl 100] [.str, .int .i64]
def ziU(F:Bool->Option Int):Con I:=⟨27,⟨[.optr 0],[(0, .cells 69 [.nop 0 69 3, .nilv, .bool])]⟩,[0],⟨[.int .i64],[]⟩,0,F⟩
def zd8(F:aE×Bool->Option (Int×Bool×List UInt8)):Con I:=⟨36,⟨[.optr 0, .str],[(0, .cells 69 [.nop 0 69 3, .nilv, .bool])]⟩,[],⟨[.int .i64, .nili],[(0, .cells 69 [.nop 0 69 3, .own 1, .bool]),(1, .sl 5)]⟩,1,F⟩
def znQ(F:(aE×Int)×Bool->Option (Bool×List UInt8)):Con I:=⟨44,⟨[.optr 0, .str, .int .i64],[(0, .cells 69 [.nop 0 69 3, .nilv, .bool])]⟩,[],⟨[],[(0, .cells 69 [.nop 0 69 3, .own 1, .bool]),(1, .sl 5)]⟩,1,F⟩
def ziV(F:Bool×List UInt8->Option Int):Con I:=⟨27,⟨[.optr 0],[(0, .cells 69 [.nop 0 69 3, .own 1, .bool]),(1, .sl 5)]⟩,[0,1],⟨[.int .i64],[]⟩,0,F⟩
def zd9(F:aE×Bool×List UInt8->Option (Int×Bool×List UInt8)):Con I:=⟨36,⟨[.optr 0, .str],[(0, .cells 69 [.nop 0 69 3, .own 1, .bool]),(1, .sl 5)]⟩,[],⟨[.int .i64, .nili],[(0, .cells 69 [.nop 0 69 3, .own 2, .bool]),(2, .sl 5)]⟩,1,F⟩
def zlZ(F:(aE×Int)×Bool×List UInt8->Option (Bool×List UInt8)):Con I:=⟨44,⟨[.optr 0, .str, .int .i64],[(0, .cells 69 [.nop 0 69 3, .own 1, .bool]),(1, .sl 5)]⟩,[],⟨[],[(0, .cells 69 [.nop 0 69 3, .own 2, .bool]),(2, .sl 5)]⟩,1,F⟩
def zDm:=K0 81 [.str] [.str, .int .i64]
def zsb(F:(Int×Bool)×List UInt8->Option (List UInt8)):Con I:=⟨240,⟨[.own 0, .int .i64, .bool],[(0, .sl 5)]⟩,[],⟨[.own 1],[(1, .sl 5)]⟩,1,F⟩
def zw9(F:ze×List UInt8->Option (List UInt8)):Con I:=⟨207,⟨[.own 0, .val 116],[(0, .sl 5)]⟩,[],⟨[.own 1],[(1, .sl 5)]⟩,1,F⟩
def zif(F:zb->Option zb):Con I:=⟨268,⟨[.optr 0],[(0, .row 270)]⟩,[],⟨[],[(0, .row 270)]⟩,0,F⟩
def zl5(F:Int×zb->Option Int):Con I:=⟨294,⟨[.optr 0, .int .i64],[(0, .row 270)]⟩,[0],⟨[.int .i64],[]⟩,0,F⟩
def zxT:=K0 295 [.int .i64] [.bool]
def zki(F:zb->Option zb):Con I:=⟨296,⟨[.optr 0, .clo 295 []],[(0, .row 270)]⟩,[],⟨[],[(0, .row 270)]⟩,0,F⟩
def zgl(F:Int->Option (List UInt8)):Con I:=⟨342,⟨[.nilv, .int .i32],[]⟩,[],⟨[.own 0],[(0, .sl 5)]⟩,1,F⟩
def znb(F:Int->Option (List UInt8)):Con I:=⟨327,⟨[.nilv, .int .i32],[]⟩,[],⟨[.own 0],[(0, .sl 5)]⟩,1,F⟩
def zvg:=K0 329 [.int .i64, .int .i64, .int .i64] [.bool]
def zxR:=K0 317 [.int .i64] [.bool]
def zDz:=K0 328 [.int .i64] [.int .i64]
def zhM(F:zb->Option (zb×List UInt8)):Con I:=⟨315,⟨[.optr 0, .nilv],[(0, .row 270)]⟩,[],⟨[.own 1],[(0, .row 270),(1, .sl 5)]⟩,1,F⟩
def zgm(F:Int×List UInt8->Option (List UInt8)):Con I:=⟨342,⟨[.own 0, .int .i32],[(0, .sl 5)]⟩,[],⟨[.own 1],[(1, .sl 5)]⟩,1,F⟩
def znc(F:Int×List UInt8->Option (List UInt8)):Con I:=⟨327,⟨[.own 0, .int .i32],[(0, .sl 5)]⟩,[],⟨[.own 1],[(1, .sl 5)]⟩,1,F⟩
def zhN(F:zb×List UInt8->Option (zb×List UInt8)):Con I:=⟨315,⟨[.optr 0, .own 1],[(0, .row 270),(1, .sl 5)]⟩,[],⟨[.own 2],[(0, .row 270),(2, .sl 5)]⟩,1,F⟩
def zj1(F:zb->Option (ze×zb)):Con I:=⟨297,⟨[.optr 0],[(0, .row 270)]⟩,[],⟨[.val 116],[(0, .row 270)]⟩,0,F⟩
def zxS:=K0 316 [.int .i64] [.bool]
def zve:=K0 298 [.int .i64] [.bool]
def zjZ(F:Int×zb->Option Bool):Con I:=⟨299,⟨[.optr 0, .int .i64],[(0, .row 270)]⟩,[0],⟨[.bool],[]⟩,0,F⟩
def zl3(F:Int×zb->Option Bool):Con I:=⟨300,⟨[.optr 0, .int .i64],[(0, .row 270)]⟩,[0],⟨[.bool],[]⟩,0,F⟩
def zl6(F:zb->Option (aE×zb)):Con I:=⟨301,⟨[.optr 0],[(0, .row 270)]⟩,[],⟨[.str],[(0, .row 270)]⟩,0,F⟩
def zj0(F:zb->Option Bool):Con I:=⟨302,⟨[.optr 0],[(0, .row 270)]⟩,[0],⟨[.bool],[]⟩,0,F⟩
def zi0(F:zb->Option zb):Con I:=⟨296,⟨[.optr 0, .clo 317 []],[(0, .row 270)]⟩,[],⟨[],[(0, .row 270)]⟩,0,F⟩
def ziY(F:zb->Option (Bool×zb)):Con I:=⟨318,⟨[.optr 0],[(0, .row 270)]⟩,[],⟨[.bool],[(0, .row 270)]⟩,0,F⟩
def zna:=K0 319 [.str] [.int .i64]
def ziZ(F:zb->Option (ze×zb)):Con I:=⟨303,⟨[.optr 0],[(0, .row 270)]⟩,[],⟨[.val 116],[(0, .row 270)]⟩,0,F⟩
def zm8(F:zb->Option (ze×zb)):Con I:=⟨333,⟨[.optr 0],[(0, .row 270)]⟩,[],⟨[.val 116],[(0, .row 270)]⟩,0,F⟩
def zm9(F:zb->Option (ze×zb)):Con I:=⟨320,⟨[.optr 0],[(0, .row 270)]⟩,[],⟨[.val 116],[(0, .row 270)]⟩,0,F⟩
def zkh(F:zb->Option (ze×zb)):Con I:=⟨304,⟨[.optr 0],[(0, .row 270)]⟩,[],⟨[.val 116],[(0, .row 270)]⟩,0,F⟩
def zl4(F:zb->Option (ze×zb)):Con I:=⟨269,⟨[.optr 0],[(0, .row 270)]⟩,[],⟨[.val 116],[(0, .row 270)]⟩,0,F⟩
def znV(F:(ze×Int×Int)×List ze->Option (List ze)):Con I:=⟨246,⟨[.val 116, .int .i64, .int .i64, .optr 0],[(0, .cells 140 [.own 1]),(1, .sl 116)]⟩,[],⟨[],[(0, .cells 140 [.own 2]),(2, .sl 116)]⟩,1,F⟩
def zvf(F:aE->Option (Int×List ze)):Con I:=⟨245,⟨[.str, .clo 246 [0]],[(0, .cells 140 [.nilv])]⟩,[],⟨[.int .i64],[(0, .cells 140 [.own 1]),(1, .sl 116)]⟩,1,F⟩
def zvd:=K0 211 [.str] [.sl 116, .int .i64]
def zl0:=K0 212 [.sl 116, .sl 116] [.bool]
def zAK:=K0 176 [.sl 116] [.str, .int .i64]
def zDq:=K0 130 [.sl 118] [.str, .int .i64]
def zDk:=K0 77 [.val 26] [.str, .int .i64]
def zDj:=K0 46 [.sl 26] [.str, .int .i64]
def zAE:=K0 78 [.val 29] [.int .i64]
def zr8(F:Int×Int×List UInt8->Option (Int×List UInt8)):Con I:=⟨178,⟨[.int .u8, .optr 0, .optr 1],[(0, .row 3),(1, .sl 5)]⟩,[],⟨[],[(0, .row 3),(1, .sl 5)]⟩,0,F⟩
def zw3:=K0 132 [.int .i64] [.str, .int .i64]
def zDh:=K0 131 [.sl 29, .str, .clo 79 []] [.str]
def SB:=K0 79 [.val 29] [.str]
def zpj(F:zh×Bool->Option (aE×Bool)):Con I:=⟨133,⟨[.val 29, .optr 0],[(0, .cells 134 [.optr 1]),(1, .row 4)]⟩,[0],⟨[.str],[(1, .row 4)]⟩,0,F⟩
def zw0(F:(List zh×aE)×Bool->Option (aE×Bool)):Con I:=⟨131,⟨[.sl 29, .str, .clo 133 [0]],[(0, .cells 134 [.optr 1]),(1, .row 4)]⟩,[0],⟨[.str],[(1, .row 4)]⟩,0,F⟩
def Ry(F:zh×Bool->Option (aE×Bool)):Con I:=⟨80,⟨[.val 29, .optr 0],[(0, .row 4)]⟩,[],⟨[.str],[(0, .row 4)]⟩,0,F⟩
def zDe:=K0 47 [.val 29] [.str, .int .i64]
def ziR(F:(aE×aE)×Bool×List UInt8->Option (Bool×List UInt8)):Con I:=⟨43,⟨[.str, .str, .optr 0],[(0, .cells 89 [.optr 1]),(1, .cells 69 [.nop 1 69 3, .own 2, .bool]),(2, .sl 5)]⟩,[0],⟨[],[(1, .cells 69 [.nop 1 69 3, .own 3, .bool]),(3, .sl 5)]⟩,1,F⟩
def zm4(F:List aE×Bool×List UInt8->Option (Bool×List UInt8)):Con I:=⟨49,⟨[.optr 0, .sl 9],[(0, .cells 69 [.nop 0 69 3, .own 1, .bool]),(1, .sl 5)]⟩,[],⟨[],[(0, .cells 69 [.nop 0 69 3, .own 2, .bool]),(2, .sl 5)]⟩,1,F⟩
def zkd(F:zP×Bool×List UInt8->Option (Bool×List UInt8)):Con I:=⟨26,⟨[.optr 0, .val 33],[(0, .cells 69 [.nop 0 69 3, .own 1, .bool]),(1, .sl 5)]⟩,[],⟨[],[(0, .cells 69 [.nop 0 69 3, .own 2, .bool]),(2, .sl 5)]⟩,1,F⟩
def QE(F:List zP×Bool×List UInt8->Option (Bool×List UInt8)):Con I:=⟨48,⟨[.optr 0, .sl 33],[(0, .cells 69 [.nop 0 69 3, .own 1, .bool]),(1, .sl 5)]⟩,[],⟨[],[(0, .cells 69 [.nop 0 69 3, .own 2, .bool]),(2, .sl 5)]⟩,1,F⟩
def zm5(F:zP×Bool->Option (Bool×List UInt8)):Con I:=⟨26,⟨[.optr 0, .val 33],[(0, .cells 69 [.nop 0 69 3, .nilv, .bool])]⟩,[],⟨[],[(0, .cells 69 [.nop 0 69 3, .own 1, .bool]),(1, .sl 5)]⟩,1,F⟩
def zA9:=K0 15 [.val 33] [.str, .int .i64]
def zA8:=K0 5 [.val 33] [.str, .int .i64]
def zxB:=K0 196 [.str, .int .i64] [.bool]
def zxy:=K0 155 [.str] [.bool]
def zxg:=K0 138 [.int .u8] [.int .u8]
def zxf:=K0 188 [.str] [.str]
def zxz:=K0 252 [.str] [.bool]
def zuZ:=K0 276 [.val 110] [.val 274]
def zxu:=K0 277 [.val 108] [.bool]
def zxA:=K0 305 [.val 222, .int .u8] [.val 222, .bool]
def zu0:=K0 278 [.sl 100, .val 222, .int .u8] [.bool]
def zu1:=K0 253 [.val 110, .val 222] [.bool]
def zqQ:=K0 228 [.val 104, .val 222] [.bool]
def Vu:=K0 189 [.val 100, .val 222, .bool] [.bool]
def zA3:=K0 148 [.sl 100] [.bool]
def JJ:=K0 149 [.sl 100] [.int .i64]
def zxv:=K0 93 [.sl 100] [.int .i64]
def DI:=K0 229 [.sl 118, .sl 118] [.bool]
def zxt:=K0 190 [.val 26, .val 26] [.bool]
def vH:=K0 150 [.val 29, .val 29] [.bool]
def zA5:=K0 94 [.val 29] [.bool]
def zxs:=K0 151 [.str] [.bool]
def NJ:=K0 89 [.sl 118] [.sl 116]
def MJ:=K0 230 [.sl 118, .int .u8] [.bool]
def zxp:=K0 191 [.sl 118] [.int .i64]
def zxo:=K0 254 [.str] [.bool]
def zxh:=K0 83 [.int .u8] [.bool]
def zAY:=K0 255 [.str] [.bool]
def zxj:=K0 218 [.int .u8] [.bool]
def zGK:=K0 216 [.str, .int .i64] [.int .u8]
def zuS:=K0 219 [.str, .int .i64] [.int .i64]
def zAV:=K0 270 [] [.str]
def zDs:=K0 271 [.int .u8] [.int .i64]
def zAU:=K0 272 [.int .i64] [.str]
def zsc:=K0 248 [.str, .int .i64] [.str, .int .i64]
def zuR:=K0 220 [.str, .int .i64] [.val 116, .int .i64]
def zuP:=K0 137 [.int .u8] [.bool]
def zuN:=K0 82 [.int .u8] [.bool]
def zuM:=K0 221 [.str, .int .i64] [.bool]
def zxi:=K0 222 [.str, .int .i64] [.str, .int .i64]
def zuO:=K0 223 [.str, .int .i64] [.bool]
def zqO:=K0 224 [.str, .int .i64] [.bool]
def zuQ:=K0 273 [.str, .int .i64] [.int .i64]
def zpk:=K0 249 [.str, .int .i64] [.int .i64, .bool]
def zm1:=K0 250 [.str] [.int .i64]
def zsd:=K0 225 [.str, .int .i64] [.val 116, .int .i64]
def zDv:=K0 217 [.str, .int .i64, .str] [.bool]
def zxe:=K0 185 [.str, .str] [.bool]
def zDu:=K0 274 [.str, .int .i64] [.val 116, .int .i64]
def zm2:=K0 275 [.int .u8] [.bool]
def zDw:=K0 251 [.str, .int .i64] [.val 116, .int .i64]
def zAX:=K0 226 [.str, .int .i64] [.val 116, .int .i64]
def zAW:=K0 227 [.int .u8] [.int .u8]
def zDt:=K0 187 [.str, .int .i64] [.val 116, .int .i64]
def zxl:=K0 256 [.int .u8] [.bool]
def zAZ:=K0 231 [.val 116] [.bool]
def zxk:=K0 192 [.sl 116] [.int .i64]
def YJ:=K0 193 [.sl 118] [.bool]
def zsf:=K0 194 [.sl 118] [.sl 118]
def zuW:=K0 195 [.str] [.bool]
def zuX:=K0 152 [.str, .sl 118] [.bool]
def zxq:=K0 95 [.val 26] [.int .i64]
def zxD:=K0 145 [.val 26] [.bool]
def zu5:=K0 92 [.val 29] [.bool]
def zu7:=K0 146 [.str] [.bool]
def zGL:=K0 147 [.int .i64] [.bool]
def zDx:=K0 91 [.val 29] [.bool, .bool]
def zxE:=K0 57 [.val 29] [.bool]
def zu3:=K0 96 [.val 29] [.bool]
def wH:=K0 153 [.val 29] [.int .i64]
def NK:=K0 154 [.val 29] [.bool]
def znP:=K0 97 [.val 29] [.bool]
def zu9:=K0 98 [.sl 9] [.bool]
def GJ:=K0 59 [.val 33] [.bool]
def zxw:=K0 86 [.val 110] [.bool]
def JK:=K0 99 [.sl 100] [.int .i64]
def zm3:=K0 100 [.val 33] [.int .i64]
def sH:=K0 60 [.sl 33] [.int .i64]
def zxH:=K0 34 [.sl 33] [.bool]
def zxF:=K0 19 [.val 35] [.int .i64]
def zpl:=K0 16 [.val 33] [.int .i64]
def zA4:=K0 50 [.int .u8] [.str]
def zuT:=K0 84 [.int .u8] [.str]
def zxm:=K0 51 [.str, .bool] [.str]
def zuU:=K0 182 [.str, .bool] [.str]
def kI:=K0 215 [.int .i64] [.str]
def OJ:=K0 183 [.int .i64, .bool] [.str]
def zA1:=K0 184 [.str] [.str]
def zA0:=K0 139 [.val 116] [.str]
def zqP:=K0 85 [.val 110] [.str]
def KJ:=K0 141 [.int .i64] [.str]
def zuY:=K0 140 [.int .i64] [.str]
def zsh:=K0 87 [.val 108] [.str]
def znO:=K0 52 [.val 110] [.str]
def yB:=K0 29 [.sl 100] [.str]
def zxn:=K0 142 [.sl 116] [.int .i64, .str]
def zAS:=K0 186 [.str, .int .i64] [.int .i64]
def zDr:=K0 143 [.str] [.sl 116, .sl 219]
def zAT:=K0 144 [.sl 116, .sl 116] [.bool]
def zse:=K0 88 [.sl 116] [.str]
def zsg:=K0 53 [.val 26] [.str]
def zA2:=K0 30 [.sl 26] [.str]
def LJ:=K0 90 [.int .i64] [.str]
def yH:=K0 54 [.int .i64] [.str]
def zu6:=K0 55 [.val 29] [.bool]
def zu8:=K0 56 [.val 29] [.str]
def zu4:=K0 58 [.sl 29, .str, .bool] [.str]
def Py:=K0 31 [.val 29] [.str]
def zA7:=K0 33 [.sl 9] [.str]
def zxK:=K0 32 [.sl 33] [.str]
def xB:=K0 17 [.val 33] [.str]
def zA6:=K0 6 [.val 33] [.str, .int .i64]
def zxN:=K0 18 [.val 35] [.int .i64]
def zxM:=K0 7 [.val 35] [.sl 9, .int .i64]
def zxJ:=K0 8 [.val 35] [.sl 9, .int .i64]
def zxL:=K0 9 [.val 35] [.str, .int .i64]
def zDy:=K0 21 [.sl 33] [.str]
def zxI:=K0 10 [.val 35] [.str, .int .i64]
def zpm:=K0 11 [.sl 9, .sl 9] [.bool]
def RX:=K0 3 [.val 33, .val 35] [.bool]
def zuL:=K0 163 [.nilv, .sl 118] [.sl 116]
def zL2:=K0 267 [.str] [.str, .int .i64]
def zKg:ZH Tryz.prog (zL2 Bq):=zI2
def zH8:=K0 157 [.str, .int .u8] [.int .i64]
def zHj:ZH Tryz.prog (zH8 FE):=zG4
def zL4:=K0 238 [.str, .str] [.int .i64]
def zCh:ZH Tryz.prog (zL4 mr):=zI4
def zL5:=K0 330 [.str, .str] [.str]
def zKj:ZH Tryz.prog (zL5 Tm):=zI5
def zL6:=K0 261 [.str, .str] [.str]
def zCp:ZH Tryz.prog (zL6 Dq):=zI6
def zDo:=K0 331 [.str, .str] [.int .i64]
def zCg:ZH Tryz.prog (zDo lm):=zBD
def zRT:=K0 332 [.str, .str] [.str, .str, .bool]
def zQJ:ZH Tryz.prog (zRT cutF):=zQd
def zH7:=K0 209 [.int .i64, .int .i64] [.str]
def sN:ZH Tryz.prog (zH7 Yl):=zG3
def zGI(F:(Int×Int)×List UInt8->Option (List UInt8)):Con I:=⟨214,⟨[.own 0, .int .u64, .int .i64],[(0, .sl 5)]⟩,[],⟨[.own 1],[(1, .sl 5)]⟩,1,F⟩
def zEg:ZH Tryz.prog (zGI vv):=zDU
def zGH(F:(Int×Int)×List UInt8->Option (List UInt8)):Con I:=⟨260,⟨[.own 0, .int .i64, .int .i64],[(0, .sl 5)]⟩,[],⟨[.own 1],[(1, .sl 5)]⟩,1,F⟩
def YU:ZH Tryz.prog (zGH Nt):=zDT
def zPx:=K0 20 [.sl 9, .str] [.str]
def UF:ZH Tryz.prog (zPx Rk):=zMP
def zL3(F:Bool->Option Bool):Con I:=⟨61,⟨[.optr 0],[(0, .cells 69 [.nop 0 69 3, .nilv, .bool])]⟩,[],⟨[],[(0, .cells 69 [.nop 0 69 3, .nilv, .bool])]⟩,0,F⟩
def zKh:ZH Tryz.prog (zL3 JR):=zI3
def zPw(F:Bool×List UInt8->Option Bool):Con I:=⟨61,⟨[.optr 0],[(0, .cells 69 [.nop 0 69 3, .own 1, .bool]),(1, .sl 5)]⟩,[1],⟨[],[(0, .cells 69 [.nop 0 69 3, .own 1, .bool])]⟩,0,F⟩
def zNw:ZH Tryz.prog (zPw oK):=zMO
def zRV(F:Bool×List UInt8->Option aE):Con I:=⟨28,⟨[.optr 0],[(0, .cells 69 [.nop 0 69 3, .own 1, .bool]),(1, .sl 5)]⟩,[],⟨[.str],[]⟩,0,F⟩
def zQM:ZH Tryz.prog (zRV strW):=zQf
def zPv(F:List UInt8->Option Unit):Con I:=⟨61,⟨[.optr 0],[(0, .cells 130 [.nop 0 130 2, .own 1]),(1, .sl 5)]⟩,[1],⟨[],[(0, .cells 130 [.nop 0 130 2, .own 1])]⟩,0,F⟩
def X9:ZH Tryz.prog (zPv copyV):=zMN
def zRU(F:List UInt8->Option aE):Con I:=⟨28,⟨[.optr 0],[(0, .cells 130 [.nop 0 130 2, .own 1]),(1, .sl 5)]⟩,[],⟨[.str],[]⟩,0,F⟩
def zQL:ZH Tryz.prog (zRU strV):=zQe
variable [Fu]
def cw{con:Con I}{S:List (Con I)}(f:Go.Func)(hS: ∀c∈S,ZH Tryz.prog c)(fz:List (Nat×List Nat):=[])(pre:List (Nat×List (Nat×Option Nat)):=[])(p:Nat:=0)(cuts:List (Nat×Cut):=[])(joins:List (Nat×Cut):=[])(cls:List (Nat×List Nat):=[])(fl:Option Nat:=Fu.n)(exS:du:=con.outS)(hf:Tryz.prog.funcs[con.f]? =some f:=by kernel_rfl)(h:chk con (⟨S,fz,pre,p,cuts,joins,cls,fl⟩:Env0 I) f=true:=by kernel_rfl)(a: ∀x,evF2 (⟨S,fz,pre,p,cuts,joins,cls,fl⟩:Env0 I) T FK f.ntmps (rsl f) (body f) con exS x=con.F x:=by intro x;kernel_rfl):ZH Tryz.prog con:=
 okC0 mixed ipOK tok rfl rfl hS hf h a
def d5(c:Con I)(B:((c.inS.sl I).T->Option (c.outS.sl I).T)->(c.inS.sl I).T->Option (c.outS.sl I).T)(hB: ∀S,ZH Tryz.prog (⟨c.f,c.inS,c.cst,c.outS,c.k,S⟩:Con I)->ZH Tryz.prog (⟨c.f,c.inS,c.cst,c.outS,c.k,B S⟩:Con I))(a:Ii (⟨c.f,c.inS,c.cst,c.outS,c.k,λ_=>Option.none⟩:Con I)=true:=by kernel_rfl):ZH Tryz.prog (⟨c.f,c.inS,c.cst,c.outS,c.k,Lv.recE B⟩:Con I):=ZH.recE B a hB
def zz7(Km:List zm×Int->Option Int)(hs:CO (xH Km)):CO (xH (Ey Km)):=
 cw Tryz.f37 (ci hs zt) (cuts:=[(3,fS [5,6] [.int .i64, .int .i64] [0,1,4] 0 [5] [.int .i64]),(7,fS [5,7] [.int .i64, .int .i64] [6] 2 [5] [.int .i64]),(12,fS [5,9] [.int .i64, .int .i64] [7,8] 4 [5] [.int .i64])])
def zzf:CO (xH Km):=d5 (xH Km) (Ey) (λS h=>zz7 S h)
def zvI:CO (zxx WH):=
 cw Tryz.f22 (ci zzf zt)
def zz5(Al:List zo×Int->Option Int)(hs:CO (BI Al)):CO (BI (Hy Al)):=
 cw Tryz.f38 (ci hs zt) (cuts:=[(3,fS [5,6] [.int .i64, .int .i64] [0,1,4] 0 [5] [.int .i64])])
def zza:CO (BI Al):=d5 (BI Al) (Hy) (λS h=>zz5 S h)
def EP:CO (zuV Iy):=
 cw Tryz.f63 zt (joins:=[(6,dc [6] [.bool] [3] 0)])
def zz3(QX:List zo->Option Int)(hs:CO (EI QX)):CO (EI (kH QX)):=
 cw Tryz.f39 (ci EP (ci hs zt)) (cuts:=[(3,fS [3,4] [.int .i64, .int .i64] [0,2] 0 [3] [.int .i64])]) (joins:=[(4,dc [3,4] [.int .i64, .int .i64] [] 0)])
def fI:CO (EI QX):=d5 (EI QX) (kH) (λS h=>zz3 S h)
def gW:CO (zxr yA):=
 cw Tryz.f23 (ci zza (ci fI zt)) (cuts:=[(5,dc [3,4] [.int .i64, .int .i64] [0] 0)])
def zAa(Qy:zh×Int->Option Int)(hs:CO (uH Qy)):CO (uH (yx Qy)):=
 cw Tryz.f40 (ci hs zt) (cuts:=[(3,⟨[5,6],⟨[.int .i64, .int .i64],[]⟩,[1,2,4],[0],[],0,[5],⟨[.int .i64],[]⟩,[]⟩)])
def bV:CO (uH Qy):=d5 (uH Qy) (yx) (λS h=>zAa S h)
def zAb(Bn:zh->Option Bool)(hs:CO (tH Bn)):CO (tH (ax Bn)):=
 cw Tryz.f41 (ci gW (ci hs zt)) (fz:=[(1,[2])]) (cuts:=[(4,⟨[3],⟨[.int .i64],[]⟩,[1],[0],[],0,[],⟨[],[]⟩,[]⟩)])
def zzh:CO (tH Bn):=d5 (tH Bn) (ax) (λS h=>zAb S h)
def zvL:CO (zxC UH):=
 cw Tryz.f24 (ci bV (ci zzh zt))
def zrr(Qj:List zP×Int->Option Bool)(hs:CO (XJ Qj)):CO (XJ (Ky Qj)):=
 cw Tryz.f12 (ci zvI (ci gW (ci zvL (ci hs zt)))) (cuts:=[(4,dc [5] [.int .i64] [0,1] 0),(10,⟨[7],⟨[.int .i64],[]⟩,[5,6],[0],[],2,[],⟨[],[]⟩,[]⟩)])
def zrd:CO (XJ Qj):=d5 (XJ Qj) (Ky) (λS h=>zrr S h)
def zul(QV:List zP->Option Int)(hs:CO (IJ QV)):CO (IJ (mI QV)):=
 cw Tryz.f13 (ci hs zt) (cuts:=[(3,fS [3,4] [.int .i64, .int .i64] [0,2] 0 [3] [.int .i64])])
def xW:CO (IJ QV):=d5 (IJ QV) (mI) (λS h=>zul S h)
def zvM:CO (zxG rA):=
 cw Tryz.f4 (ci zrd (ci xW zt))
def ZR:CO (zm7 cy):=
 cw Tryz.f106 (ci zHj zt)
def zri:CO (zsn jI):=
 cw Tryz.f105 (ci ZR zt)
def zfO:CO (zgj Ql):=
 cw Tryz.f156 (ci zri zt) (cuts:=[(2,dc [8] [.int .i64] [0,1,7] 0)])
def zem:CO (ze4 qG):=
 cw Tryz.f104 (ci zfO zt)
def zvV:CO (zxQ PH):=
 cw Tryz.f66 (ci zem zt)
def ztK:CO (zvc JI):=
 cw Tryz.f65 (ci zvV zt)
def zha:CO (zhL TP):=
 cw Tryz.f103 (ci ztK zt) (cuts:=[(2,dc [8] [.int .i64] [0,1,7] 0)])
def zfq:CO (zfz Qa):=
 cw Tryz.f64 (ci zha zt)
def zp6(Qk:List zm->Option Int)(hs:CO (IK Qk)):CO (IK (uJ Qk)):=
 cw Tryz.f67 (ci hs zt) (cuts:=[(3,fS [3,14] [.int .i64, .int .i64] [2,12,13] 0 [3] [.int .i64]),(6,fS [3,21] [.int .i64, .int .i64] [14,19,20] 2 [3] [.int .i64]),(9,fS [3,28] [.int .i64, .int .i64] [21,26,27] 4 [3] [.int .i64])]) (joins:=[(15,dc [3,28] [.int .i64, .int .i64] [] 0)])
def zpS:CO (IK Qk):=d5 (IK Qk) (uJ) (λS h=>zp6 S h)
def vW:CO (zvb Wx):=
 cw Tryz.f236 (ci ZR zt)
def KX:CO (zsk Cy):=
 cw Tryz.f232 (ci vW zt)
def CJ:CO (zxb tq):=
 cw Tryz.f164 zt (cuts:=[(3,⟨[10],⟨[.int .i64],[(0, .sl 5)]⟩,[2,3,8,9],[],[0],0,[],⟨[],[(0, .sl 5)]⟩,[0]⟩)]) (joins:=[(7,⟨[10],⟨[.int .i64],[(0, .sl 5)]⟩,[],[],[0],0,[],⟨[],[]⟩,[]⟩)])
def JX:CO (zsm Ay):=
 cw Tryz.f199 (ci KX (ci CJ zt))
def zrf:CO (zsj XI):=
 cw Tryz.f233 zt (joins:=[(4,⟨[6],⟨[.bool],[]⟩,[1,5],[0],[],0,[],⟨[],[]⟩,[]⟩),(7,dc [11] [.bool] [] 0),(10,dc [14] [.bool] [] 0)])
def znr:CO (znS vJ):=
 cw Tryz.f234 zt (exS:=⟨[.optr 0, .bool],[(0, .row 155)]⟩)
def zyT:CO (zAD kG):=
 cw Tryz.f242 zt
def vU:CO (zDd Xw):=
 cw Tryz.f208 (ci zyT zt)
def zns(zw:zm×zB×Bool->Option Bool)(a:CO (ZZ zw)):CO (znT (LP zw)):=
 cw Tryz.f235 (ci a zt) (p:=2)
def zfr(zw:zm×zB×Bool->Option Bool)(a:CO (ZZ zw)):CO (zfA (YP zw)):=
 cw Tryz.f158 (ci (zns zw a) zt) (p:=2) (cuts:=[(2,dc [8] [.int .i64] [0,1,7] 0)])
def zd1(zw:zm×zB×Bool->Option Bool)(a:CO (ZZ zw)):CO (zd6 (qx zw)):=
 cw Tryz.f107 (ci (zfr zw a) zt) (p:=2)
def zpR(zw:zm×zB×Bool->Option Bool)(a:CO (ZZ zw)):CO (zqR (bB zw)):=
 cw Tryz.f200 (ci zrf (ci znr (ci (zd1 zw a) (ci KX (ci JX (ci vW (ci vU zt))))))) (joins:=[(8,⟨[],⟨[],[]⟩,[2],[0],[],0,[],⟨[],[]⟩,[]⟩),(15,dc [89] [.bool] [10,88] 0)])
def znq(zw:zm×zB×Bool->Option Bool)(a:CO (ZZ zw)):CO (znR (wJ zw)):=
 cw Tryz.f161 (ci JX (ci (zpR zw a) zt)) (cuts:=[(4,⟨[30],⟨[.int .i64],[]⟩,[2,3,28,29],[0,1],[],0,[],⟨[],[]⟩,[]⟩)])
def zoL(zw:zm×zB×Bool->Option Bool)(a:CO (ZZ zw)):CO (zpo (AP zw)):=
 cw Tryz.f160 (ci (znq zw a) zt) (p:=1)
def zfN(zw:zm×zB×Bool->Option Bool)(a:CO (ZZ zw)):CO (zgi (iP zw)):=
 cw Tryz.f198 (ci (zoL zw a) zt) (p:=1) (cuts:=[(2,dc [8] [.int .i64] [0,1,7] 0)])
def zel(zw:zm×zB×Bool->Option Bool)(a:CO (ZZ zw)):CO (ze3 (qF zw)):=
 cw Tryz.f159 (ci (zfN zw a) zt) (p:=1)
def zru(zw:zm×zB×Bool->Option Bool)(hs:CO (ZZ zw)):CO (ZZ (bJ zw)):=
 cw Tryz.f109 (ci (zel zw hs) zt) (cuts:=[(4,⟨[38],⟨[.int .i64],[]⟩,[3,4,36,37],[0,1],[],0,[],⟨[],[]⟩,[]⟩)])
def zrh:CO (ZZ zw):=d5 (ZZ zw) (bJ) (λS h=>zru S h)
def zoK:CO (zpn BP):=
 cw Tryz.f108 (ci zrh zt)
def zgO:CO (zg8 dP):=
 cw Tryz.f158 (ci zoK zt) (cuts:=[(2,dc [8] [.int .i64] [0,1,7] 0)])
def zfb:CO (zfn qP):=
 cw Tryz.f107 (ci zgO zt)
def zrt(QN:List zm->Option Int)(hs:CO (WJ QN)):CO (WJ (dJ QN)):=
 cw Tryz.f110 (ci hs zt) (cuts:=[(3,fS [3,14] [.int .i64, .int .i64] [2,12,13] 0 [3] [.int .i64]),(6,fS [3,21] [.int .i64, .int .i64] [14,19,20] 2 [3] [.int .i64]),(9,fS [3,28] [.int .i64, .int .i64] [21,26,27] 4 [3] [.int .i64])])
def zre:CO (WJ QN):=d5 (WJ QN) (dJ) (λS h=>zrt S h)
def MX:CO (zsi WB):=
 cw Tryz.f68 (ci zfb (ci zre zt))
def zvU:CO (zxP yw):=
 cw Tryz.f69 zt
def wO:CO (zxc Px):=
 cw Tryz.f162 zt (joins:=[(7,dc [6] [.bool] [0] 0)])
def zCQ(gm:List zo×Int->Option ZM)(hs:CO (XH gm)):CO (XH (NH gm)):=
 cw Tryz.f112 (ci wO (ci hs zt)) (cuts:=[(3,⟨[12],⟨[.int .i64],[(1, .row 159)]⟩,[1,4,5,10,11],[0],[1],0,[],⟨[],[(1, .row 159)]⟩,[1]⟩)]) (joins:=[(9,⟨[],⟨[],[(1, .row 159)]⟩,[7,8,12],[2],[1],0,[],⟨[],[]⟩,[]⟩),(12,⟨[12],⟨[.int .i64],[(1, .row 159)]⟩,[],[],[1],0,[],⟨[],[]⟩,[]⟩)]) (exS:=⟨[.optr 0],[(0, .row 159)]⟩)
def nU:CO (XH gm):=d5 (XH gm) (NH) (λS h=>zCQ S h)
def iO:CO (zAQ uw):=
 cw Tryz.f111 (ci nU zt)
def fO:CO (zAR gq):=
 cw Tryz.f70 (ci iO (ci nU zt))
def zwe(Tp:List zo×List ze->Option (List ze))(hs:CO (UI Tp)):CO (UI (gI Tp)):=
 cw Tryz.f163 (ci wO (ci hs zt)) (fz:=[(4,[3]),(7,[6])]) (p:=1) (cuts:=[(2,⟨[0,10],⟨[.own 1001, .int .i64],[(1001, .sl 116)]⟩,[4,8,9],[],[],0,[0],⟨[.own 1001],[(1001, .sl 116)]⟩,[1001]⟩)]) (joins:=[(8,⟨[0,10],⟨[.own 1103, .int .i64],[(1103, .sl 116)]⟩,[],[],[],0,[],⟨[],[]⟩,[]⟩)])
def zvy:CO (UI Tp):=d5 (UI Tp) (gI) (λS h=>zwe S h)
def jW:CO (zxd Ox):=
 cw Tryz.f163 (ci wO (ci zvy zt)) (fz:=[(4,[3]),(7,[6])]) (cuts:=[(2,⟨[0,10],⟨[.own 1105, .int .i64],[(1105, .sl 116)]⟩,[4,8,9],[],[],0,[0],⟨[.own 1105],[(1105, .sl 116)]⟩,[1105]⟩)]) (joins:=[(8,⟨[0,10],⟨[.own 1207, .int .i64],[(1207, .sl 116)]⟩,[],[],[],0,[],⟨[],[]⟩,[]⟩)])
def ztp:CO (zuL Ox):=zIn ipOK (by kernel_rfl) jW
def zCi:CO (zDp wF):=
 cw Tryz.f113 (ci iO (ci jW zt))
def YX:CO (ziW cP):=
 cw Tryz.f169 zt
def Z6:CO (zm6 cD):=
 cw Tryz.f121 (ci YX zt)
def zyY:CO (zAI eG):=
 cw Tryz.f114 (ci ZR (ci Z6 (ci CJ zt)))
def zh0:CO (zic ea):=
 cw Tryz.f257 (ci YX zt)
def zkN:CO (zl1 ee):=
 cw Tryz.f237 (ci zh0 zt)
def aB:CO (zAL Jn):=
 cw Tryz.f180 zt
def JP:CO (zuJ Dy):=
 cw Tryz.f201 (ci zkN (ci aB zt))
def uV:CO (zw5 bH):=
 cw Tryz.f213 zt
def jO:CO (zAO Du):=
 cw Tryz.f179 (ci uV (ci aB zt))
def znt:CO (znU dT):=
 cw Tryz.f202 (ci zCh zt)
def oU:CO (zDn yz):=
 cw Tryz.f165 (ci ZR (ci JP (ci Z6 (ci jO (ci znt zt))))) (joins:=[(8,dc [3,4,5,6,7,25] [.bool, .bool, .bool, .bool, .bool, .bool] [1,16] 0),(14,dc [3,4,5,6,7,63] [.bool, .bool, .bool, .bool, .bool, .bool] [] 0),(22,dc [4,5,6,7,94] [.bool, .bool, .bool, .bool, .bool] [3] 0),(24,⟨[3,4,5,6,7],⟨[.bool, .bool, .bool, .bool, .bool],[]⟩,[1],[0],[],0,[],⟨[],[]⟩,[]⟩)])
def zto:CO (zuK Qn):=
 cw Tryz.f203 zt (p:=1)
def kW:CO (zxa bA):=
 cw Tryz.f204 (ci CJ zt)
def iV:CO (zAP jq):=
 cw Tryz.f166 (ci zto (ci kW zt)) (joins:=[(11,⟨[5],⟨[.int .i64],[]⟩,[3],[0],[],0,[],⟨[],[]⟩,[]⟩)])
def UV:CO (zAJ ww):=
 cw Tryz.f115 (ci oU (ci iV zt)) (cuts:=[(4,dc [10] [.int .i64] [0,8,9] 0)])
def XG:CO (zH6 uj):=
 cw Tryz.f119 zt
def zpL(Zj:List zo->Option Bool)(a:CO (Uu Zj)):CO (zqN (iB Zj)):=
 cw Tryz.f167 (ci XG (ci a zt))
def zhZ(Zj:List zo->Option Bool)(a:CO (Uu Zj)):CO (zib (XP Zj)):=
 cw Tryz.f168 (ci (zpL Zj a) zt) (cuts:=[(2,dc [8] [.int .i64] [0,1,7] 0)])
def zfM(Zj:List zo->Option Bool)(a:CO (Uu Zj)):CO (zgh (jP Zj)):=
 cw Tryz.f117 (ci (zhZ Zj a) zt)
def zua(Zj:List zo->Option Bool)(hs:CO (Uu Zj)):CO (Uu (FJ Zj)):=
 cw Tryz.f116 (ci (zfM Zj hs) zt)
def ztn:CO (Uu Zj):=d5 (Uu Zj) (FJ) (λS h=>zua S h)
def zCf:CO (zDl RN):=
 cw Tryz.f120 (ci XG zt)
def ztm:CO (zuI mH):=
 cw Tryz.f118 (ci XG (ci zCf zt))
def zgP:CO (zg9 bP):=
 cw Tryz.f168 (ci ztm zt) (cuts:=[(2,dc [8] [.int .i64] [0,1,7] 0)])
def zfc:CO (zfo qQ):=
 cw Tryz.f117 (ci zgP zt)
def nO:CO (zAH wo):=
 cw Tryz.f71 (ci zCi (ci zyY (ci UV (ci ztn (ci zfc (ci Z6 (ci XG zt)))))))
def zwh(mo:zh->Option Int)(hs:CO (SI mo)):CO (SI (VI mo)):=
 cw Tryz.f72 (ci hs zt) (cuts:=[(5,fS [3,17] [.int .i64, .int .i64] [15,16] 0 [3] [.int .i64])]) (joins:=[(4,⟨[3],⟨[.int .i64],[]⟩,[1],[0],[],0,[],⟨[],[]⟩,[]⟩)])
def zvT:CO (SI mo):=d5 (SI mo) (VI) (λS h=>zwh S h)
def lH:CO (zDg um):=
 cw Tryz.f125 zt
def zj6:CO (zkf eA):=
 cw Tryz.f259 zt (cuts:=[(2,dc [8] [.int .i64] [0,1,7] 0)])
def zhY:CO (zia dd):=
 cw Tryz.f239 (ci zj6 zt)
def zvt:CO (zw1 iA):=
 cw Tryz.f205 (ci zhY (ci CJ (ci ZR zt))) (fz:=[(1,[0])])
def vV:CO (zw4 dA):=
 cw Tryz.f177 zt (cuts:=[(2,dc [7] [.int .i64] [5,6] 0)])
def zvu:CO (zw2 Rx):=
 cw Tryz.f206 (ci vV zt) (fz:=[(1,[1])])
def zyX:CO (zAG VA):=
 cw Tryz.f171 (ci lH (ci zvt (ci zvu zt))) (cuts:=[(4,dc [23] [.int .i64] [21,22] 0)]) (joins:=[(17,⟨[57],⟨[.bool],[]⟩,[4,23],[1],[],0,[],⟨[],[]⟩,[]⟩),(19,dc [23] [.int .i64] [] 0)])
def zyW:CO (zAF fG):=
 cw Tryz.f172 zt
def zCc:CO (zDf SG):=
 cw Tryz.f124 (ci lH (ci zyX (ci zyW zt)))
def zl9:CO (zm0 MK):=
 cw Tryz.f123 (ci zCc zt)
def ziu:CO (ziT VP):=
 cw Tryz.f170 (ci zl9 zt) (cuts:=[(2,dc [8] [.int .i64] [0,1,7] 0)])
def zgN:CO (zg7 Qz):=
 cw Tryz.f122 (ci ziu zt)
def OP:CO (zpi Oy):=
 cw Tryz.f73 (ci zgN (ci lH zt))
def zAe(wm:zh->Option Int)(hs:CO (oH wm)):CO (oH (Ux wm)):=
 cw Tryz.f74 (ci fO (ci hs zt)) (cuts:=[(9,fS [5,27] [.int .i64, .int .i64] [2,25,26] 1 [5] [.int .i64])]) (joins:=[(14,dc [5,8] [.int .i64, .int .i64] [27] 0)])
def zzo:CO (oH wm):=d5 (oH wm) (Ux) (λS h=>zAe S h)
def sU:CO (zDi EA):=
 cw Tryz.f134 zt
def zCP(vk:zh×Int->Option ((Int×Bool)×Int))(hs:CO (YH vk)):CO (YH (Tx vk)):=
 cw Tryz.f126 (ci fO (ci nO (ci lH (ci hs (ci sU zt))))) (p:=1) (cuts:=[(19,⟨[9,97],⟨[.int .i64, .int .i64],[(0, .row 3)]⟩,[1,95,96],[],[0],1,[9],⟨[.int .i64],[(0, .row 3)]⟩,[0]⟩)]) (joins:=[(15,⟨[69],⟨[.bool],[]⟩,[1,2,6],[0,1],[],0,[],⟨[],[]⟩,[]⟩),(26,⟨[9,12],⟨[.int .i64, .int .i64],[]⟩,[97],[0],[],0,[],⟨[],[]⟩,[]⟩)])
def zCe:CO (YH vk):=d5 (YH vk) (Tx) (λS h=>zCP S h)
def WX:CO (zlY DC):=
 cw Tryz.f75 (ci zCe zt)
def zAd(ym:List zP->Option zy)(hs:CO (rH ym)):CO (rH (Vx ym)):=
 cw Tryz.f42 (ci hs (ci zfq (ci zpS (ci MX (ci zvU (ci fO (ci nO (ci zvT (ci OP (ci zzo (ci WX zt))))))))))) (cuts:=[(3,⟨[18],⟨[.int .i64],[(1, .row 87)]⟩,[2,3,16,17],[0],[1],0,[],⟨[],[(1, .row 87)]⟩,[1]⟩),(17,⟨[10,87],⟨[.bool, .int .i64],[(3, .row 87)]⟩,[6,7,18,85,86],[1],[3],3,[10],⟨[.bool],[(3, .row 87)]⟩,[3]⟩)]) (joins:=[(35,⟨[7,10],⟨[.int .i64, .bool],[(1, .row 87),(3, .row 87)]⟩,[6,18],[],[1,3],0,[],⟨[],[]⟩,[]⟩)]) (exS:=⟨[.optr 0],[(0, .row 87)]⟩)
def zzn:CO (rH ym):=d5 (rH ym) (Vx) (λS h=>zAd S h)
def VW:CO (zxO FB):=
 cw Tryz.f25 (ci zzn zt)
def zoM:CO (zpp aJ):=
 cw Tryz.f14 (ci VW zt) (fz:=[(1,[1])])
def Z8:CO (zd7 zq):=
 cw Tryz.f36 (ci X9 zt) (p:=2)
def QL:CO (zgk Zf):=
 cw Tryz.f127 (ci X9 zt) (fz:=[(2,[6])]) (p:=2)
def mO:CO (zAM Qx):=
 cw Tryz.f136 (ci Z6 zt)
def DK:CO (zr9 qp):=
 cw Tryz.f181 (ci aB (ci uV (ci zEg zt))) (fz:=[(2,[2]),(3,[1]),(5,[1])]) (p:=1)
def tV:CO (zw6 Lu):=
 cw Tryz.f135 (ci jO (ci aB (ci DK zt))) (fz:=[(6,[2])]) (cuts:=[(2,⟨[0,11],⟨[.own 1519, .int .i64],[(1519, .sl 5)]⟩,[1,2,6,10],[],[],0,[0],⟨[.own 1519],[(1519, .sl 5)]⟩,[1519]⟩)]) (joins:=[(8,⟨[0,11],⟨[.own 1621, .int .i64],[(1621, .sl 5)]⟩,[],[],[],0,[],⟨[],[]⟩,[]⟩)])
def sV:CO (zw7 qy):=
 cw Tryz.f135 (ci jO (ci aB (ci DK zt))) (fz:=[(6,[2])]) (p:=1) (cuts:=[(2,⟨[0,11],⟨[.own 1623, .int .i64],[(1623, .sl 5)]⟩,[1,2,6,10],[],[],0,[0],⟨[.own 1623],[(1623, .sl 5)]⟩,[1623]⟩)]) (joins:=[(8,⟨[0,11],⟨[.own 1725, .int .i64],[(1725, .sl 5)]⟩,[],[],[],0,[],⟨[],[]⟩,[]⟩)])
def zq4:CO (zsa iI):=
 cw Tryz.f240 (ci YU (ci sN (ci zCp zt))) (fz:=[(2,[1]),(6,[1])]) (joins:=[(3,⟨[0,1],⟨[.own 1934, .int .i64],[(1934, .sl 5)]⟩,[2],[],[],0,[],⟨[],[]⟩,[]⟩),(9,⟨[0],⟨[.own 2037],[(2037, .sl 5)]⟩,[],[],[],0,[],⟨[],[]⟩,[]⟩)])
def TV:CO (zAN SA):=
 cw Tryz.f241 zt (exS:=⟨[.optr 0],[(0, .row 253)]⟩)
def zvw:CO (zw8 aH):=
 cw Tryz.f207 (ci mO (ci tV (ci sV (ci ZR (ci DK (ci zq4 (ci JP (ci Z6 (ci TV zt))))))))) (fz:=[(5,[7]),(7,[1]),(12,[1]),(14,[1]),(20,[2]),(22,[1]),(30,[2]),(32,[1]),(38,[4])]) (cuts:=[(16,⟨[0,67],⟨[.own 1727, .int .i64],[(1727, .sl 5)]⟩,[3,4,65,66],[0,3],[],1,[0],⟨[.own 1727],[(1727, .sl 5)]⟩,[1727]⟩),(26,⟨[0,93],⟨[.own 1831, .int .i64],[(1831, .sl 5)]⟩,[3,4,91,92],[0,2],[],3,[0],⟨[.own 1831],[(1831, .sl 5)]⟩,[1831]⟩)]) (joins:=[(12,⟨[5],⟨[.int .i64],[]⟩,[0,3],[0],[],0,[],⟨[],[]⟩,[]⟩),(21,⟨[0,67],⟨[.own 1829, .int .i64],[(1829, .sl 5)]⟩,[],[],[],0,[],⟨[],[]⟩,[]⟩),(31,⟨[0,93],⟨[.own 1933, .int .i64],[(1933, .sl 5)]⟩,[],[],[],0,[],⟨[],[]⟩,[]⟩)])
def zEh:CO (zGJ gF):=
 cw Tryz.f173 (ci oU (ci zvw zt))
def kP:CO (zjY Zi):=
 cw Tryz.f128 (ci zEh (ci Z8 zt)) (p:=2)
def zrg:CO (zsl WI):=
 cw Tryz.f174 zt (fz:=[(1,[0])])
def ziw:CO (ziX ff):=
 cw Tryz.f266 zt
def zh1:CO (zie eL):=
 cw Tryz.f244 (ci ziw zt)
def zkO:CO (zl2 ec):=
 cw Tryz.f210 (ci zh1 zt)
def zEf:CO (zGG CF):=
 cw Tryz.f175 (ci vU (ci sN (ci zkO zt))) (joins:=[(10,⟨[6],⟨[.str],[]⟩,[1,5],[0],[],0,[],⟨[],[]⟩,[]⟩),(15,dc [6] [.str] [] 0)])
def zis(zW:zH×List UInt8->Option (List UInt8))(a:CO (qJ zW)):CO (ziS (qD zW)):=
 cw Tryz.f76 (ci Z8 (ci QL (ci kP (ci a zt)))) (p:=2) (cuts:=[(1,⟨[13],⟨[.int .i64],[(0, .cells 130 [.nop 0 130 2, .own 3995]),(3995, .sl 5)]⟩,[0,11,12],[],[0],0,[],⟨[],[(0, .cells 130 [.nop 0 130 2, .own 3995]),(3995, .sl 5)]⟩,[0,3995]⟩),(9,⟨[40],⟨[.int .i64],[(0, .cells 130 [.nop 0 130 2, .own 4509]),(4509, .sl 5)]⟩,[38,39],[],[0],2,[],⟨[],[(0, .cells 130 [.nop 0 130 2, .own 4509]),(4509, .sl 5)]⟩,[0,4509]⟩),(19,⟨[77],⟨[.int .i64],[(0, .cells 130 [.nop 0 130 2, .own 4816]),(4816, .sl 5)]⟩,[75,76],[],[0],5,[],⟨[],[(0, .cells 130 [.nop 0 130 2, .own 4816]),(4816, .sl 5)]⟩,[0,4816]⟩)]) (joins:=[(5,⟨[],⟨[],[(0, .cells 130 [.nop 0 130 2, .own 4098]),(4098, .sl 5)]⟩,[5,13],[3996],[0],0,[],⟨[],[]⟩,[]⟩),(8,⟨[],⟨[],[(0, .cells 130 [.nop 0 130 2, .own 4201]),(4201, .sl 5)]⟩,[6],[4099],[0],0,[],⟨[],[]⟩,[]⟩),(13,⟨[],⟨[],[(0, .cells 130 [.nop 0 130 2, .own 4612]),(4612, .sl 5)]⟩,[8,40],[4510],[0],0,[],⟨[],[]⟩,[]⟩),(18,⟨[],⟨[],[(0, .cells 130 [.nop 0 130 2, .own 4714]),(4714, .sl 5)]⟩,[],[],[0],0,[],⟨[],[]⟩,[]⟩)])
def ziJ(zW:zH×List UInt8->Option (List UInt8))(hs:CO (qJ zW)):CO (qJ (qO zW)):=
 cw Tryz.f129 (ci kP (ci QL (ci Z8 (ci zrg (ci zEf (ci (zis zW hs) zt)))))) (p:=2) (joins:=[(14,⟨[],⟨[],[(0, .cells 130 [.nop 0 130 2, .own 2039]),(2039, .sl 5)]⟩,[0,3],[2],[0],0,[],⟨[],[]⟩,[]⟩),(16,⟨[],⟨[],[(0, .cells 130 [.nop 0 130 2, .own 2141]),(2141, .sl 5)]⟩,[],[],[0],0,[],⟨[],[]⟩,[]⟩),(27,⟨[],⟨[],[(0, .cells 130 [.nop 0 130 2, .own 2142]),(2142, .sl 5)]⟩,[0,3],[2],[0],0,[],⟨[],[]⟩,[]⟩)])
def zit:CO (qJ zW):=d5 (qJ zW) (qO) (λS h=>ziJ S h)
def zj5:CO (zke LK):=
 cw Tryz.f76 (ci Z8 (ci QL (ci kP (ci zit zt)))) (p:=1) (cuts:=[(1,⟨[13],⟨[.int .i64],[(0, .cells 130 [.nop 0 130 2, .own 1208]),(1208, .sl 5)]⟩,[0,11,12],[],[0],0,[],⟨[],[(0, .cells 130 [.nop 0 130 2, .own 1208]),(1208, .sl 5)]⟩,[0,1208]⟩),(9,⟨[40],⟨[.int .i64],[(0, .cells 130 [.nop 0 130 2, .own 4818]),(4818, .sl 5)]⟩,[38,39],[],[0],2,[],⟨[],[(0, .cells 130 [.nop 0 130 2, .own 4818]),(4818, .sl 5)]⟩,[0,4818]⟩),(19,⟨[77],⟨[.int .i64],[(0, .cells 130 [.nop 0 130 2, .own 5125]),(5125, .sl 5)]⟩,[75,76],[],[0],5,[],⟨[],[(0, .cells 130 [.nop 0 130 2, .own 5125]),(5125, .sl 5)]⟩,[0,5125]⟩)]) (joins:=[(5,⟨[],⟨[],[(0, .cells 130 [.nop 0 130 2, .own 1311]),(1311, .sl 5)]⟩,[5,13],[1209],[0],0,[],⟨[],[]⟩,[]⟩),(8,⟨[],⟨[],[(0, .cells 130 [.nop 0 130 2, .own 1414]),(1414, .sl 5)]⟩,[6],[1312],[0],0,[],⟨[],[]⟩,[]⟩),(13,⟨[],⟨[],[(0, .cells 130 [.nop 0 130 2, .own 4921]),(4921, .sl 5)]⟩,[8,40],[4819],[0],0,[],⟨[],[]⟩,[]⟩),(18,⟨[],⟨[],[(0, .cells 130 [.nop 0 130 2, .own 5023]),(5023, .sl 5)]⟩,[],[],[0],0,[],⟨[],[]⟩,[]⟩)])
def zj7:CO (zkg PP):=
 cw Tryz.f27 zt (p:=2)
def wW:CO (zva Ou):=
 cw Tryz.f45 (ci MX (ci zj5 (ci zj7 (ci zQL zt)))) (fz:=[(4,[400000])])
def ziv:CO (ziU UX):=
 cw Tryz.f27 zt (p:=1)
def zd2:CO (zd8 dX):=
 cw Tryz.f36 (ci zKh zt) (p:=1)
def znp:CO (znQ GX):=
 cw Tryz.f44 (ci ziv (ci zd2 zt)) (p:=1)
def aX:CO (ziV Qs):=
 cw Tryz.f27 zt (p:=2)
def zd3:CO (zd9 QD):=
 cw Tryz.f36 (ci zNw zt) (p:=2)
def Qo:CO (zlZ zG):=
 cw Tryz.f44 (ci aX (ci zd3 zt)) (p:=2)
def dO:CO (zDm om):=
 cw Tryz.f81 (ci ZR (ci mO (ci tV zt)))
def zq5:CO (zsb Jy):=
 cw Tryz.f240 (ci YU (ci sN (ci zCp zt))) (fz:=[(2,[1]),(6,[1])]) (p:=1) (joins:=[(3,⟨[0,1],⟨[.own 5335, .int .i64],[(5335, .sl 5)]⟩,[2],[],[],0,[],⟨[],[]⟩,[]⟩),(9,⟨[0],⟨[.own 5438],[(5438, .sl 5)]⟩,[],[],[],0,[],⟨[],[]⟩,[]⟩)])
def zvx:CO (zw9 Ku):=
 cw Tryz.f207 (ci mO (ci sV (ci ZR (ci DK (ci zq5 (ci JP (ci Z6 (ci TV zt)))))))) (fz:=[(5,[7]),(7,[1]),(12,[1]),(14,[1]),(20,[2]),(22,[1]),(30,[2]),(32,[1]),(38,[4])]) (p:=1) (cuts:=[(16,⟨[0,67],⟨[.own 5128, .int .i64],[(5128, .sl 5)]⟩,[3,4,65,66],[1,4],[],1,[0],⟨[.own 5128],[(5128, .sl 5)]⟩,[5128]⟩),(26,⟨[0,93],⟨[.own 5232, .int .i64],[(5232, .sl 5)]⟩,[3,4,91,92],[1,3],[],3,[0],⟨[.own 5232],[(5232, .sl 5)]⟩,[5232]⟩)]) (joins:=[(12,⟨[5],⟨[.int .i64],[(0, .sl 5)]⟩,[0,3],[1],[0],0,[],⟨[],[]⟩,[]⟩),(21,⟨[0,67],⟨[.own 5230, .int .i64],[(5230, .sl 5)]⟩,[],[],[],0,[],⟨[],[]⟩,[]⟩),(31,⟨[0,93],⟨[.own 5334, .int .i64],[(5334, .sl 5)]⟩,[],[],[],0,[],⟨[],[]⟩,[]⟩)])
def zh2:CO (zif ql):=
 cw Tryz.f268 (ci Z6 (ci zCh zt)) (p:=1) (cuts:=[(0,⟨[],⟨[],[(0, .row 270)]⟩,[0],[],[0],0,[],⟨[],[(0, .row 270)]⟩,[0]⟩)])
def zZ:CO (zl5 zg):=
 cw Tryz.f294 zt (p:=1)
def dB:CO (zxT Gu):=
 cw Tryz.f295 zt
end Go.Lv.VT
end
