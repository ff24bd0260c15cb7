/- Contracts. -/
import Derived.Test.YtcdeccnjlkkejaaGreatDoorTx
import Derived.Test.YtcdeccnjlkkejaaGreatDoorIp
import Derived.Test.YtcdeccnjlkkejaaGreatDoorLf
import Derived.Test.YtcdeccnjlkkejaaGreatDoorPa
set_option linter.unusedSimpArgs false
set_option linter.unusedVariables false
namespace Go.Lv.VT
set_option maxRecDepth 100000
open Go.Proofs
theorem okC{con:Con I}{A:Env0 I}{exS:StSh}(f:Go.Func)(hS: ∀c∈A.S,zl Tryz.prog c)(hf:Tryz.prog.funcs[con.f]? =some f)(h:chk con A f=true)(he: ∀x,evF2 A T FK f.ntmps (rsl f) (body f) con exS x=con.F x):zl Tryz.prog con:=
 okC0 mixed ipOK tok rfl rfl hS hf h he
noncomputable def zcq(F:List zb×Int→Option Int):Con I:=⟨58,⟨[.sl 49, .int .i64],[]⟩,[],⟨[.int .i64],[]⟩,0,F⟩
noncomputable def zaF(F:Int→Option Int):Con I:=⟨25,⟨[.int .u8],[]⟩,[],⟨[.int .u8],[]⟩,0,F⟩
noncomputable def za6(F:List zb→Option Int):Con I:=⟨59,⟨[.sl 49],[]⟩,[],⟨[.int .i64],[]⟩,0,F⟩
noncomputable def zhT(F:List zb→Option Bool):Con I:=⟨15,⟨[.sl 49],[]⟩,[],⟨[.bool],[]⟩,0,F⟩
noncomputable def zam(F:Int→Option Int):Con I:=⟨61,⟨[.int .u8],[]⟩,[],⟨[.int .u8],[]⟩,0,F⟩
noncomputable def zdi(F:List zb×Int→Option zK):Con I:=⟨65,⟨[.sl 49, .int .u8],[]⟩,[],⟨[.val 101],[]⟩,0,F⟩
noncomputable def zco(F:List zb→Option Int):Con I:=⟨32,⟨[.sl 49],[]⟩,[],⟨[.int .i64],[]⟩,0,F⟩
noncomputable def zcn(F:zb×Int→Option Bool):Con I:=⟨91,⟨[.val 49, .int .u8],[]⟩,[],⟨[.bool],[]⟩,0,F⟩
noncomputable def zk6(F:List zb→Option (List zb)):Con I:=⟨107,⟨[.sl 49],[]⟩,[],⟨[.sl 49],[]⟩,0,F⟩
noncomputable def zjF(F:List zb→Option (List zb)):Con I:=⟨106,⟨[.sl 49],[]⟩,[],⟨[.sl 49],[]⟩,0,F⟩
noncomputable def QL(F:Str×Str→Option Bool):Con I:=⟨130,⟨[.str, .str],[]⟩,[],⟨[.bool],[]⟩,0,F⟩
noncomputable def ZI(F:Str×Str→Option Bool):Con I:=⟨93,⟨[.str, .str],[]⟩,[],⟨[.bool],[]⟩,0,F⟩
noncomputable def zcU(F:Str→Option Str):Con I:=⟨108,⟨[.str],[]⟩,[],⟨[.str],[]⟩,0,F⟩
noncomputable def zcT(F:Str×Str→Option Bool):Con I:=⟨109,⟨[.str, .str],[]⟩,[],⟨[.bool],[]⟩,0,F⟩
noncomputable def zg9(F:zb→Option Bool):Con I:=⟨92,⟨[.val 49],[]⟩,[],⟨[.bool],[]⟩,0,F⟩
noncomputable def zhN(F:Int×List zb→Option Bool):Con I:=⟨68,⟨[.int .i64, .optr 0],[(0, .row 23)]⟩,[0],⟨[.bool],[]⟩,0,F⟩
noncomputable def zcN(F:List zb→Option (List zb)):Con I:=⟨98,⟨[.sl 49],[]⟩,[],⟨[.own 0],[(0, .sl 49)]⟩,1,F⟩
noncomputable def zbS(F:List zb→Option (List zb)):Con I:=⟨67,⟨[.sl 49],[]⟩,[],⟨[.sl 49],[]⟩,0,F⟩
noncomputable def zla(F:List zb→Option (List zb×Int)):Con I:=⟨29,⟨[.sl 49],[]⟩,[],⟨[.sl 49, .int .i64],[]⟩,0,F⟩
noncomputable def zbi(F:List zb×List zf→Option (List zf)):Con I:=⟨63,⟨[.own 0, .sl 49],[(0, .sl 44)]⟩,[],⟨[.own 1],[(1, .sl 44)]⟩,1,F⟩
noncomputable def zhO(F:List zb→Option (List zf)):Con I:=⟨63,⟨[.nilv, .sl 49],[]⟩,[],⟨[.own 0],[(0, .sl 44)]⟩,1,F⟩
noncomputable def zk9(F:List zb→Option (List zf×Int)):Con I:=⟨18,⟨[.sl 49],[]⟩,[],⟨[.sl 44, .int .i64],[]⟩,0,F⟩
noncomputable def QK(F:Str×Int→Option Int):Con I:=⟨119,⟨[.str, .int .u8],[]⟩,[],⟨[.int .i64],[]⟩,0,F⟩
noncomputable def zjE(F:Str→Option Bool):Con I:=⟨87,⟨[.str],[]⟩,[],⟨[.bool],[]⟩,0,F⟩
noncomputable def za8(F:Str×Str→Option Str):Con I:=⟨197,⟨[.str, .str],[]⟩,[],⟨[.str],[]⟩,0,F⟩
noncomputable def zcO(F:Str×Str→Option Str):Con I:=⟨162,⟨[.str, .str],[]⟩,[],⟨[.str],[]⟩,0,F⟩
noncomputable def zfs(F:Int→Option Bool):Con I:=⟨155,⟨[.int .u8],[]⟩,[],⟨[.bool],[]⟩,0,F⟩
noncomputable def zgL(F:Str→Option Bool):Con I:=⟨122,⟨[.str],[]⟩,[],⟨[.bool],[]⟩,0,F⟩
noncomputable def zhM(F:Int→Option Bool):Con I:=⟨157,⟨[.int .u8],[]⟩,[],⟨[.bool],[]⟩,0,F⟩
noncomputable def zjH(F:Int→Option Bool):Con I:=⟨153,⟨[.int .u8],[]⟩,[],⟨[.bool],[]⟩,0,F⟩
noncomputable def zdP(F:Str×Str→Option Bool):Con I:=⟨154,⟨[.str, .str],[]⟩,[],⟨[.bool],[]⟩,0,F⟩
noncomputable def zk7(F:zf→Option Bool):Con I:=⟨115,⟨[.val 44],[]⟩,[],⟨[.bool],[]⟩,0,F⟩
noncomputable def zgM(F:(Int×Int)×List zf→Option Bool):Con I:=⟨116,⟨[.int .i64, .int .u8, .optr 0],[(0, .row 22)]⟩,[0],⟨[.bool],[]⟩,0,F⟩
noncomputable def zjI(F:List zf→Option Int):Con I:=⟨80,⟨[.sl 44],[]⟩,[],⟨[.int .i64],[]⟩,0,F⟩
noncomputable def zjG(F:List zf→Option Int):Con I:=⟨79,⟨[.sl 44],[]⟩,[],⟨[.int .i64],[]⟩,0,F⟩
noncomputable def zfi(F:zb→Option Bool):Con I:=⟨128,⟨[.val 49],[]⟩,[],⟨[.bool],[]⟩,0,F⟩
noncomputable def za7(F:List zb→Option Int):Con I:=⟨129,⟨[.sl 49, .clo 128 []],[]⟩,[],⟨[.int .i64],[]⟩,0,F⟩
noncomputable def Q8(F:List zb→Option Bool):Con I:=⟨89,⟨[.sl 49, .clo 128 []],[]⟩,[],⟨[.bool],[]⟩,0,F⟩
noncomputable def qG(F:List zb→Option Bool):Con I:=⟨88,⟨[.sl 49],[]⟩,[],⟨[.bool],[]⟩,0,F⟩
noncomputable def zgK(F:zb→Option Bool):Con I:=⟨90,⟨[.val 49],[]⟩,[],⟨[.bool],[]⟩,0,F⟩
noncomputable def zaB(F:List zb→Option Int):Con I:=⟨129,⟨[.sl 49, .clo 90 []],[]⟩,[],⟨[.int .i64],[]⟩,0,F⟩
noncomputable def QQ(F:List zb→Option Bool):Con I:=⟨89,⟨[.sl 49, .clo 90 []],[]⟩,[],⟨[.bool],[]⟩,0,F⟩
noncomputable def zjD(F:Za→Option Int):Con I:=⟨52,⟨[.val 66],[]⟩,[],⟨[.int .i64],[]⟩,0,F⟩
noncomputable def ziQ(F:List zb→Option (Za×Bool)):Con I:=⟨73,⟨[.sl 49],[]⟩,[],⟨[.val 66, .bool],[]⟩,0,F⟩
noncomputable def znW(F:List zb→Option (Za×Bool×Int)):Con I:=⟨37,⟨[.sl 49],[]⟩,[],⟨[.val 66, .bool, .int .i64],[]⟩,0,F⟩
noncomputable def Ql(F:List zb→Option (List zf)):Con I:=⟨36,⟨[.sl 49],[]⟩,[],⟨[.sl 44],[]⟩,0,F⟩
noncomputable def zaG(F:List zb×Int→Option Bool):Con I:=⟨66,⟨[.sl 49, .int .u8],[]⟩,[],⟨[.bool],[]⟩,0,F⟩
noncomputable def zcZ(F:List zb→Option Int):Con I:=⟨27,⟨[.sl 49],[]⟩,[],⟨[.int .i64],[]⟩,0,F⟩
noncomputable def zbk(F:List zb→Option (List zb)):Con I:=⟨110,⟨[.sl 49],[]⟩,[],⟨[.sl 49],[]⟩,0,F⟩
noncomputable def zcX(F:Int→Option Int):Con I:=⟨150,⟨[.int .u8],[]⟩,[],⟨[.int .u8],[]⟩,0,F⟩
noncomputable def zcW(F:Str→Option Str):Con I:=⟨105,⟨[.str],[]⟩,[],⟨[.str],[]⟩,0,F⟩
noncomputable def zcV(F:Str×Str→Option Bool):Con I:=⟨72,⟨[.str, .str],[]⟩,[],⟨[.bool],[]⟩,0,F⟩
noncomputable def zgT(F:List zb→Option (List zb×Bool)):Con I:=⟨111,⟨[.sl 49],[]⟩,[],⟨[.sl 49, .bool],[]⟩,0,F⟩
noncomputable def zhX(F:Str→Option Bool):Con I:=⟨94,⟨[.str],[]⟩,[],⟨[.bool],[]⟩,0,F⟩
noncomputable def zhS(F:Str→Option Bool):Con I:=⟨102,⟨[.str],[]⟩,[],⟨[.bool],[]⟩,0,F⟩
noncomputable def Qc(F:Int→Option Bool):Con I:=⟨148,⟨[.int .u8],[]⟩,[],⟨[.bool],[]⟩,0,F⟩
noncomputable def zjO(F:Str→Option Bool):Con I:=⟨103,⟨[.str],[]⟩,[],⟨[.bool],[]⟩,0,F⟩
noncomputable def zbj(F:Int→Option Bool):Con I:=⟨178,⟨[.int .u8],[]⟩,[],⟨[.bool],[]⟩,0,F⟩
noncomputable def Qx(F:Str×Int→Option Int):Con I:=⟨217,⟨[.str, .int .i64],[]⟩,[],⟨[.int .u8],[]⟩,0,F⟩
noncomputable def zb9(F:Str×Int→Option Int):Con I:=⟨179,⟨[.str, .int .i64],[]⟩,[],⟨[.int .i64],[]⟩,0,F⟩
noncomputable def zfu(F:Unit→Option Str):Con I:=⟨244,⟨[],[]⟩,[],⟨[.str],[]⟩,0,F⟩
noncomputable def zlc(F:Int→Option Int):Con I:=⟨245,⟨[.int .u8],[]⟩,[],⟨[.int .i64],[]⟩,0,F⟩
noncomputable def zjL(F:Int→Option Str):Con I:=⟨246,⟨[.int .i64],[]⟩,[],⟨[.str],[]⟩,0,F⟩
noncomputable def Q6(F:Str×Int→Option (Str×Int)):Con I:=⟨218,⟨[.str, .int .i64],[]⟩,[],⟨[.str, .int .i64],[]⟩,0,F⟩
noncomputable def zgP(F:Str×Int→Option (zf×Int)):Con I:=⟨180,⟨[.str, .int .i64],[]⟩,[],⟨[.val 44, .int .i64],[]⟩,0,F⟩
noncomputable def zd3(F:Int→Option Bool):Con I:=⟨198,⟨[.int .u8],[]⟩,[],⟨[.bool],[]⟩,0,F⟩
noncomputable def zd1(F:Int→Option Bool):Con I:=⟨163,⟨[.int .u8],[]⟩,[],⟨[.bool],[]⟩,0,F⟩
noncomputable def QX(F:Str×Int→Option Bool):Con I:=⟨181,⟨[.str, .int .i64],[]⟩,[],⟨[.bool],[]⟩,0,F⟩
noncomputable def zcY(F:Str×Int→Option (Str×Int)):Con I:=⟨182,⟨[.str, .int .i64],[]⟩,[],⟨[.str, .int .i64],[]⟩,0,F⟩
noncomputable def zd2(F:Str×Int→Option Bool):Con I:=⟨183,⟨[.str, .int .i64],[]⟩,[],⟨[.bool],[]⟩,0,F⟩
noncomputable def zfj(F:Str×Int→Option Bool):Con I:=⟨184,⟨[.str, .int .i64],[]⟩,[],⟨[.bool],[]⟩,0,F⟩
noncomputable def zgO(F:Str×Int→Option Int):Con I:=⟨247,⟨[.str, .int .i64],[]⟩,[],⟨[.int .i64],[]⟩,0,F⟩
noncomputable def zep(F:Str×Int→Option (Int×Bool)):Con I:=⟨219,⟨[.str, .int .i64],[]⟩,[],⟨[.int .i64, .bool],[]⟩,0,F⟩
noncomputable def zdj(F:Str→Option Int):Con I:=⟨220,⟨[.str],[]⟩,[],⟨[.int .i64],[]⟩,0,F⟩
noncomputable def zfv(F:Str×Int→Option (zf×Int)):Con I:=⟨185,⟨[.str, .int .i64],[]⟩,[],⟨[.val 44, .int .i64],[]⟩,0,F⟩
noncomputable def zhb(F:Str×Int×Str→Option Bool):Con I:=⟨186,⟨[.str, .int .i64, .str],[]⟩,[],⟨[.bool],[]⟩,0,F⟩
noncomputable def zld(F:Str×Int→Option (zf×Int)):Con I:=⟨248,⟨[.str, .int .i64],[]⟩,[],⟨[.val 44, .int .i64],[]⟩,0,F⟩
noncomputable def zdk(F:Int→Option Bool):Con I:=⟨249,⟨[.int .u8],[]⟩,[],⟨[.bool],[]⟩,0,F⟩
noncomputable def zle(F:Str×Int→Option (zf×Int)):Con I:=⟨221,⟨[.str, .int .i64],[]⟩,[],⟨[.val 44, .int .i64],[]⟩,0,F⟩
noncomputable def zjN(F:Str×Int→Option (zf×Int)):Con I:=⟨187,⟨[.str, .int .i64],[]⟩,[],⟨[.val 44, .int .i64],[]⟩,0,F⟩
noncomputable def zjM(F:Int→Option Int):Con I:=⟨188,⟨[.int .u8],[]⟩,[],⟨[.int .u8],[]⟩,0,F⟩
noncomputable def zha(F:Str×Int→Option (zf×Int)):Con I:=⟨149,⟨[.str, .int .i64],[]⟩,[],⟨[.val 44, .int .i64],[]⟩,0,F⟩
noncomputable def zhR(F:Int→Option Bool):Con I:=⟨104,⟨[.int .u8],[]⟩,[],⟨[.bool],[]⟩,0,F⟩
noncomputable def zjP(F:zf→Option Bool):Con I:=⟨71,⟨[.val 44],[]⟩,[],⟨[.bool],[]⟩,0,F⟩
noncomputable def zhQ(F:List zf→Option Int):Con I:=⟨35,⟨[.sl 44],[]⟩,[],⟨[.int .i64],[]⟩,0,F⟩
noncomputable def Q7(F:List zb→Option Bool):Con I:=⟨131,⟨[.sl 49],[]⟩,[],⟨[.bool],[]⟩,0,F⟩
noncomputable def zgR(F:Str→Option Bool):Con I:=⟨132,⟨[.str],[]⟩,[],⟨[.bool],[]⟩,0,F⟩
noncomputable def zgS(F:Str×List zb→Option Bool):Con I:=⟨95,⟨[.str, .sl 49],[]⟩,[],⟨[.bool],[]⟩,0,F⟩
noncomputable def zhW(F:Za→Option Int):Con I:=⟨53,⟨[.val 66],[]⟩,[],⟨[.int .i64],[]⟩,0,F⟩
noncomputable def zeT(F:List zb→Option (Za×Bool)):Con I:=⟨74,⟨[.sl 49],[]⟩,[],⟨[.val 66, .bool],[]⟩,0,F⟩
noncomputable def zlf(F:List zb→Option (Za×Bool×Int)):Con I:=⟨38,⟨[.sl 49],[]⟩,[],⟨[.val 66, .bool, .int .i64],[]⟩,0,F⟩
noncomputable def zjJ(F:List zb×Int→Option (List (List zb)×Int)):Con I:=⟨28,⟨[.sl 49, .int .u8],[]⟩,[],⟨[.sl 23, .int .i64],[]⟩,0,F⟩
noncomputable def zk4(F:List zb→Option (List Za×Int)):Con I:=⟨39,⟨[.sl 49],[]⟩,[],⟨[.sl 66, .int .i64],[]⟩,0,F⟩
noncomputable def zhV(F:List zb×Int→Option (List (List zb))):Con I:=⟨112,⟨[.sl 49, .int .u8],[]⟩,[],⟨[.sl 23],[]⟩,0,F⟩
noncomputable def zhc(F:List zb→Option (List Za)):Con I:=⟨75,⟨[.sl 49],[]⟩,[],⟨[.sl 66],[]⟩,0,F⟩
noncomputable def znX(F:List zb→Option (List Za×Int)):Con I:=⟨40,⟨[.sl 49],[]⟩,[],⟨[.sl 66, .int .i64],[]⟩,0,F⟩
noncomputable def za9(F:za→Option za):Con I:=⟨100,⟨[.optr 0],[(0, .row 133)]⟩,[],⟨[],[(0, .row 133)]⟩,0,F⟩
noncomputable def zy(F:Int×za→Option Int):Con I:=⟨137,⟨[.optr 0, .int .i64],[(0, .row 133)]⟩,[0],⟨[.int .i64],[]⟩,0,F⟩
noncomputable def zao(F:Int→Option Bool):Con I:=⟨138,⟨[.int .i64],[]⟩,[],⟨[.bool],[]⟩,0,F⟩
noncomputable def Qd(F:za→Option za):Con I:=⟨139,⟨[.optr 0, .clo 138 []],[(0, .row 133)]⟩,[],⟨[],[(0, .row 133)]⟩,0,F⟩
noncomputable def Q9(F:Int→Option (List UInt8)):Con I:=⟨237,⟨[.nilv, .int .i32],[]⟩,[],⟨[.own 0],[(0, .sl 5)]⟩,1,F⟩
noncomputable def zdo(F:Int→Option (List UInt8)):Con I:=⟨210,⟨[.nilv, .int .i32],[]⟩,[],⟨[.own 0],[(0, .sl 5)]⟩,1,F⟩
noncomputable def zaJ(F:Int×Int×Int→Option Bool):Con I:=⟨212,⟨[.int .i64, .int .i64, .int .i64],[]⟩,[],⟨[.bool],[]⟩,0,F⟩
noncomputable def zan(F:Int→Option Bool):Con I:=⟨174,⟨[.int .i64],[]⟩,[],⟨[.bool],[]⟩,0,F⟩
noncomputable def zhd(F:Int→Option Int):Con I:=⟨211,⟨[.int .i64],[]⟩,[],⟨[.int .i64],[]⟩,0,F⟩
noncomputable def zaI(F:za→Option (za×List UInt8)):Con I:=⟨172,⟨[.optr 0, .nilv],[(0, .row 133)]⟩,[],⟨[.own 1],[(0, .row 133),(1, .sl 5)]⟩,1,F⟩
noncomputable def zaa(F:Int×List UInt8→Option (List UInt8)):Con I:=⟨237,⟨[.own 0, .int .i32],[(0, .sl 5)]⟩,[],⟨[.own 1],[(1, .sl 5)]⟩,1,F⟩
noncomputable def zdp(F:Int×List UInt8→Option (List UInt8)):Con I:=⟨210,⟨[.own 0, .int .i32],[(0, .sl 5)]⟩,[],⟨[.own 1],[(1, .sl 5)]⟩,1,F⟩
noncomputable def qc(F:za×List UInt8→Option (za×List UInt8)):Con I:=⟨172,⟨[.optr 0, .own 1],[(0, .row 133),(1, .sl 5)]⟩,[],⟨[.own 2],[(0, .row 133),(2, .sl 5)]⟩,1,F⟩
noncomputable def zbP(F:za→Option (zf×za)):Con I:=⟨140,⟨[.optr 0],[(0, .row 133)]⟩,[],⟨[.val 44],[(0, .row 133)]⟩,0,F⟩
noncomputable def zeV(F:Int→Option Bool):Con I:=⟨173,⟨[.int .i64],[]⟩,[],⟨[.bool],[]⟩,0,F⟩
noncomputable def zd4(F:Int→Option Bool):Con I:=⟨141,⟨[.int .i64],[]⟩,[],⟨[.bool],[]⟩,0,F⟩
noncomputable def ZE(F:Int×za→Option Bool):Con I:=⟨142,⟨[.optr 0, .int .i64],[(0, .row 133)]⟩,[0],⟨[.bool],[]⟩,0,F⟩
noncomputable def zaD(F:Int×za→Option Bool):Con I:=⟨143,⟨[.optr 0, .int .i64],[(0, .row 133)]⟩,[0],⟨[.bool],[]⟩,0,F⟩
noncomputable def Qu(F:za→Option (Str×za)):Con I:=⟨144,⟨[.optr 0],[(0, .row 133)]⟩,[],⟨[.str],[(0, .row 133)]⟩,0,F⟩
noncomputable def zbO(F:za→Option Bool):Con I:=⟨145,⟨[.optr 0],[(0, .row 133)]⟩,[0],⟨[.bool],[]⟩,0,F⟩
noncomputable def zbn(F:za→Option za):Con I:=⟨139,⟨[.optr 0, .clo 174 []],[(0, .row 133)]⟩,[],⟨[],[(0, .row 133)]⟩,0,F⟩
noncomputable def zbl(F:za→Option (Bool×za)):Con I:=⟨175,⟨[.optr 0],[(0, .row 133)]⟩,[],⟨[.bool],[(0, .row 133)]⟩,0,F⟩
noncomputable def zdn(F:Str→Option Int):Con I:=⟨176,⟨[.str],[]⟩,[],⟨[.int .i64],[]⟩,0,F⟩
noncomputable def zbm(F:za→Option (zf×za)):Con I:=⟨146,⟨[.optr 0],[(0, .row 133)]⟩,[],⟨[.val 44],[(0, .row 133)]⟩,0,F⟩
noncomputable def zdl(F:za→Option (zf×za)):Con I:=⟨216,⟨[.optr 0],[(0, .row 133)]⟩,[],⟨[.val 44],[(0, .row 133)]⟩,0,F⟩
noncomputable def zdm(F:za→Option (zf×za)):Con I:=⟨177,⟨[.optr 0],[(0, .row 133)]⟩,[],⟨[.val 44],[(0, .row 133)]⟩,0,F⟩
noncomputable def zcr(F:za→Option (zf×za)):Con I:=⟨147,⟨[.optr 0],[(0, .row 133)]⟩,[],⟨[.val 44],[(0, .row 133)]⟩,0,F⟩
noncomputable def zcP(F:za→Option (zf×za)):Con I:=⟨101,⟨[.optr 0],[(0, .row 133)]⟩,[],⟨[.val 44],[(0, .row 133)]⟩,0,F⟩
noncomputable def zdQ(F:(zf×Int×Int)×List zf→Option (List zf)):Con I:=⟨70,⟨[.val 44, .int .i64, .int .i64, .optr 0],[(0, .cells 22 [.own 1]),(1, .sl 44)]⟩,[],⟨[],[(0, .cells 22 [.own 2]),(2, .sl 44)]⟩,1,F⟩
noncomputable def zgV(F:Str→Option (Int×List zf)):Con I:=⟨69,⟨[.str, .clo 70 [0]],[(0, .cells 22 [.nilv])]⟩,[],⟨[.int .i64],[(0, .cells 22 [.own 1]),(1, .sl 44)]⟩,1,F⟩
noncomputable def zgU(F:Str→Option (List zf×Int)):Con I:=⟨33,⟨[.str],[]⟩,[],⟨[.sl 44, .int .i64],[]⟩,0,F⟩
noncomputable def zk5(F:Str→Option (List Za×Int)):Con I:=⟨41,⟨[.str],[]⟩,[],⟨[.sl 66, .int .i64],[]⟩,0,F⟩
noncomputable def zft(F:Str→Option Str):Con I:=⟨151,⟨[.str],[]⟩,[],⟨[.str],[]⟩,0,F⟩
noncomputable def zhP(F:Str→Option (Str×Int)):Con I:=⟨113,⟨[.str],[]⟩,[],⟨[.str, .int .i64],[]⟩,0,F⟩
noncomputable def zjK(F:Str×Int→Option Int):Con I:=⟨152,⟨[.str, .int .i64],[]⟩,[],⟨[.int .i64],[]⟩,0,F⟩
noncomputable def zlb(F:Str→Option (List zf×List Zh)):Con I:=⟨114,⟨[.str],[]⟩,[],⟨[.sl 44, .sl 172],[]⟩,0,F⟩
noncomputable def zgN(F:Str→Option (List zf×Int)):Con I:=⟨76,⟨[.str],[]⟩,[],⟨[.sl 44, .int .i64],[]⟩,0,F⟩
noncomputable def zaH(F:List zf×Int×Int×Int→Option (List zb×Int)):Con I:=⟨96,⟨[.sl 44, .int .i64, .int .u8, .int .i64],[]⟩,[],⟨[.sl 49, .int .i64],[]⟩,0,F⟩
noncomputable def zgQ(F:List zf→Option (List zb×Bool)):Con I:=⟨62,⟨[.sl 44],[]⟩,[],⟨[.sl 49, .bool],[]⟩,0,F⟩
noncomputable def zhU(F:List zf→Option (List zb×Int)):Con I:=⟨17,⟨[.sl 44],[]⟩,[],⟨[.sl 49, .int .i64],[]⟩,0,F⟩
noncomputable def zjQ(F:Str→Option (List Za×Int)):Con I:=⟨42,⟨[.str],[]⟩,[],⟨[.sl 66, .int .i64],[]⟩,0,F⟩
noncomputable def zcp(F:List zb×List zb→Option Bool):Con I:=⟨22,⟨[.sl 49, .sl 49],[]⟩,[],⟨[.bool],[]⟩,0,F⟩
noncomputable def zeU(F:Za×Za→Option Bool):Con I:=⟨43,⟨[.val 66, .val 66],[]⟩,[],⟨[.bool],[]⟩,0,F⟩
noncomputable def zjR(F:List Za×List Za→Option Bool):Con I:=⟨44,⟨[.sl 66, .sl 66],[]⟩,[],⟨[.bool],[]⟩,0,F⟩
noncomputable def zeo(F:List zb×Str→Option Bool):Con I:=⟨8,⟨[.sl 49, .str],[]⟩,[],⟨[.bool],[]⟩,0,F⟩
noncomputable def ztR(F:Str→Option (Str×Int)):Con I:=⟨99,⟨[.str],[]⟩,[],⟨[.str, .int .i64],[]⟩,0,F⟩
theorem zxy:zl Tryz.prog (ztR zhZ):=zwT
noncomputable def zqP(F:Str×Int→Option Int):Con I:=⟨156,⟨[.str, .int .u8],[]⟩,[],⟨[.int .i64],[]⟩,0,F⟩
theorem zvt:zl Tryz.prog (zqP zlM):=zvf
noncomputable def zoY(F:Str×Str→Option Int):Con I:=⟨136,⟨[.str, .str],[]⟩,[],⟨[.int .i64],[]⟩,0,F⟩
theorem zrP:zl Tryz.prog (zoY zh9):=zwU
noncomputable def ztT(F:Str×Str→Option Str):Con I:=⟨213,⟨[.str, .str],[]⟩,[],⟨[.str],[]⟩,0,F⟩
theorem zxA:zl Tryz.prog (ztT ziG):=zwW
noncomputable def zk8(F:Str×Str→Option Int):Con I:=⟨214,⟨[.str, .str],[]⟩,[],⟨[.int .i64],[]⟩,0,F⟩
theorem zrO:zl Tryz.prog (zk8 zbp):=zrk
noncomputable def zAg(F:Str×Str→Option (Str×Str×Bool)):Con I:=⟨215,⟨[.str, .str],[]⟩,[],⟨[.str, .str, .bool],[]⟩,0,F⟩
theorem zBl:zl Tryz.prog (zAg cutF):=zA4
noncomputable def ztS(F:List zf→Option (List zb×Int)):Con I:=⟨16,⟨[.sl 44],[]⟩,[],⟨[.sl 49, .int .i64],[]⟩,0,F⟩
theorem zxz:zl Tryz.prog (ztS parseF):=zwV
theorem zqg(Qb:List zb×Int→Option Int)(hs:zl Tryz.prog (zcq Qb)):zl Tryz.prog (zcq (zbe Qb)):=
 okC (A:=⟨[zcq Qb],[],[],0,[(3,⟨[5,6],⟨[.int .i64, .int .i64],[]⟩,[0,1,4],[],[],0,[5],⟨[.int .i64],[]⟩,[]⟩)],[],[]⟩) (exS:=⟨[.int .i64],[]⟩) Tryz.f58 (memC hs zB) (by kernel_rfl) (by kernel_rfl) fun x=>by kernel_rfl
theorem zpS:zl Tryz.prog (zcq Qb):=
 zl.recE (I:=I) (P:=Tryz.prog) (f:=58) (inS:=⟨[.sl 49, .int .i64],[]⟩) (cst:=[]) (outS:=⟨[.int .i64],[]⟩) (k:=0) (zbe) (by kernel_rfl) (fun S h=>zqg S h)
theorem zbA:zl Tryz.prog (zaF qi):=
 okC (A:=⟨[],[],[],0,[],[(6,⟨[6],⟨[.bool],[]⟩,[3],[],[],0,[],⟨[],[]⟩,[]⟩)],[]⟩) (exS:=⟨[.int .u8],[]⟩) Tryz.f25 zB (by kernel_rfl) (by kernel_rfl) fun x=>by kernel_rfl
theorem zqe(Qa:List zb→Option Int)(hs:zl Tryz.prog (za6 Qa)):zl Tryz.prog (za6 (zdV Qa)):=
 okC (A:=⟨[zaF qi,za6 Qa],[],[],0,[(3,⟨[3,4],⟨[.int .i64, .int .i64],[]⟩,[0,2],[],[],0,[3],⟨[.int .i64],[]⟩,[]⟩)],[(4,⟨[3,4],⟨[.int .i64, .int .i64],[]⟩,[],[],[],0,[],⟨[],[]⟩,[]⟩)],[]⟩) (exS:=⟨[.int .i64],[]⟩) Tryz.f59 (memC zbA (memC hs zB)) (by kernel_rfl) (by kernel_rfl) fun x=>by kernel_rfl
theorem zio:zl Tryz.prog (za6 Qa):=
 zl.recE (I:=I) (P:=Tryz.prog) (f:=59) (inS:=⟨[.sl 49],[]⟩) (cst:=[]) (outS:=⟨[.int .i64],[]⟩) (k:=0) (zdV) (by kernel_rfl) (fun S h=>zqe S h)
theorem znJ:zl Tryz.prog (zhT zdC):=
 okC (A:=⟨[zcq Qb,za6 Qa],[],[],0,[],[],[]⟩) (exS:=⟨[.bool],[]⟩) Tryz.f15 (memC zpS (memC zio zB)) (by kernel_rfl) (by kernel_rfl) fun x=>by kernel_rfl
theorem zaO:zl Tryz.prog (zam qp):=
 okC (A:=⟨[],[],[],0,[],[(7,⟨[6],⟨[.bool],[]⟩,[0],[],[],0,[],⟨[],[]⟩,[]⟩)],[]⟩) (exS:=⟨[.int .u8],[]⟩) Tryz.f61 zB (by kernel_rfl) (by kernel_rfl) fun x=>by kernel_rfl
theorem zsk(zaM:List zb×Int→Option zK)(hs:zl Tryz.prog (zdi zaM)):zl Tryz.prog (zdi (ze7 zaM)):=
 okC (A:=⟨[zam qp,zdi zaM],[],[],0,[(3,⟨[12],⟨[.int .i64],[(1, .row 101)]⟩,[1,4,5,10,11],[0],[1],0,[],⟨[],[(1, .row 101)]⟩,[1]⟩)],[(9,⟨[],⟨[],[(1, .row 101)]⟩,[7,8,12],[2],[1],0,[],⟨[],[]⟩,[]⟩),(12,⟨[12],⟨[.int .i64],[(1, .row 101)]⟩,[],[],[1],0,[],⟨[],[]⟩,[]⟩)],[]⟩) (exS:=⟨[.optr 0],[(0, .row 101)]⟩) Tryz.f65 (memC zaO (memC hs zB)) (by kernel_rfl) (by kernel_rfl) fun x=>by kernel_rfl
theorem zrS:zl Tryz.prog (zdi zaM):=
 zl.recE (I:=I) (P:=Tryz.prog) (f:=65) (inS:=⟨[.sl 49, .int .u8],[]⟩) (cst:=[]) (outS:=⟨[.val 101],[]⟩) (k:=0) (ze7) (by kernel_rfl) (fun S h=>zsk S h)
theorem zc1:zl Tryz.prog (zco QA):=
 okC (A:=⟨[zdi zaM],[],[],0,[],[],[]⟩) (exS:=⟨[.int .i64],[]⟩) Tryz.f32 (memC zrS zB) (by kernel_rfl) (by kernel_rfl) fun x=>by kernel_rfl
theorem zb0:zl Tryz.prog (zcn ZG):=
 okC (A:=⟨[],[],[],0,[],[],[]⟩) (exS:=⟨[.bool],[]⟩) Tryz.f91 zB (by kernel_rfl) (by kernel_rfl) fun x=>by kernel_rfl
theorem zrM:zl Tryz.prog (zk6 zds):=
 okC (A:=⟨[zcn ZG],[],[],0,[(1,⟨[0],⟨[.sl 49],[]⟩,[2],[],[],0,[0],⟨[.sl 49],[]⟩,[]⟩)],[],[]⟩) (exS:=⟨[.sl 49],[]⟩) Tryz.f107 (memC zb0 zB) (by kernel_rfl) (by kernel_rfl) fun x=>by kernel_rfl
theorem zpG:zl Tryz.prog (zjF zaq):=
 okC (A:=⟨[zcn ZG],[],[],0,[(1,⟨[0],⟨[.sl 49],[]⟩,[2],[],[],0,[0],⟨[.sl 49],[]⟩,[]⟩)],[],[]⟩) (exS:=⟨[.sl 49],[]⟩) Tryz.f106 (memC zb0 zB) (by kernel_rfl) (by kernel_rfl) fun x=>by kernel_rfl
theorem zbc:zl Tryz.prog (QL stringslite_HasPrefix):=
 okC (A:=⟨[],[],[],0,[],[],[]⟩) (exS:=⟨[.bool],[]⟩) Tryz.f130 zB (by kernel_rfl) (by kernel_rfl) fun x=>by kernel_rfl
theorem ZX:zl Tryz.prog (ZI strings_HasPrefix):=
 okC (A:=⟨[QL stringslite_HasPrefix],[],[],0,[],[],[]⟩) (exS:=⟨[.bool],[]⟩) Tryz.f93 (memC zbc zB) (by kernel_rfl) (by kernel_rfl) fun x=>by kernel_rfl
theorem zea:zl Tryz.prog (zcU qM):=
 okC (A:=⟨[],[],[],0,[(3,⟨[10],⟨[.int .i64],[(0, .sl 5)]⟩,[2,3,8,9],[],[0],0,[],⟨[],[(0, .sl 5)]⟩,[0]⟩)],[(7,⟨[10],⟨[.int .i64],[(0, .sl 5)]⟩,[],[],[0],0,[],⟨[],[]⟩,[]⟩)],[]⟩) (exS:=⟨[.str],[]⟩) Tryz.f108 zB (by kernel_rfl) (by kernel_rfl) fun x=>by kernel_rfl
theorem zd9:zl Tryz.prog (zcT Qm):=
 okC (A:=⟨[zcU qM],[],[],0,[],[],[]⟩) (exS:=⟨[.bool],[]⟩) Tryz.f109 (memC zea zB) (by kernel_rfl) (by kernel_rfl) fun x=>by kernel_rfl
theorem zjY:zl Tryz.prog (zg9 zbo):=
 okC (A:=⟨[zcn ZG],[],[],0,[],[],[]⟩) (exS:=⟨[.bool],[]⟩) Tryz.f92 (memC zb0 zB) (by kernel_rfl) (by kernel_rfl) fun x=>by kernel_rfl
theorem znC:zl Tryz.prog (zhN zbY):=
 okC (A:=⟨[],[],[],1,[],[],[]⟩) (exS:=⟨[.bool],[]⟩) Tryz.f68 zB (by kernel_rfl) (by kernel_rfl) fun x=>by kernel_rfl
theorem zfR:zl Tryz.prog (zcN Qi):=
 okC (A:=⟨[],[],[],0,[],[],[]⟩) (exS:=⟨[.own 0],[(0, .sl 49)]⟩) Tryz.f98 zB (by kernel_rfl) (by kernel_rfl) fun x=>by kernel_rfl
theorem zsl(QB:List zb→Option (List zb))(hs:zl Tryz.prog (zbS QB)):zl Tryz.prog (zbS (ze8 QB)):=
 okC (A:=⟨[zcN Qi,zbS QB],[],[],0,[(3,⟨[8],⟨[.int .i64],[(0, .sl 49)]⟩,[0,2,7],[],[0],0,[],⟨[],[(0, .sl 49)]⟩,[0]⟩)],[],[]⟩) (exS:=⟨[.sl 49],[]⟩) Tryz.f67 (memC zfR (memC hs zB)) (by kernel_rfl) (by kernel_rfl) fun x=>by kernel_rfl
theorem zjZ:zl Tryz.prog (zbS QB):=
 zl.recE (I:=I) (P:=Tryz.prog) (f:=67) (inS:=⟨[.sl 49],[]⟩) (cst:=[]) (outS:=⟨[.sl 49],[]⟩) (k:=0) (ze8) (by kernel_rfl) (fun S h=>zsl S h)
theorem zrR:zl Tryz.prog (zla zfM):=
 okC (A:=⟨[zco QA,zhN zbY,zbS QB],[],[],0,[(6,⟨[6],⟨[.int .i64],[]⟩,[1,2,3,5,7],[0],[],0,[6],⟨[.int .i64],[]⟩,[]⟩),(8,⟨[7],⟨[.int .i64],[]⟩,[1,2,3,5,6],[0],[],2,[7],⟨[.int .i64],[]⟩,[]⟩)],[],[]⟩) (exS:=⟨[.sl 49, .int .i64],[]⟩) Tryz.f29 (memC zc1 (memC znC (memC zjZ zB))) (by kernel_rfl) (by kernel_rfl) fun x=>by kernel_rfl
theorem znT(Qn:List zb×List zf→Option (List zf))(hs:zl Tryz.prog (zbi Qn)):zl Tryz.prog (zbi (zc0 Qn)):=
 okC (A:=⟨[zam qp,zbi Qn],[(4,[3]),(7,[6])],[],1,[(2,⟨[0,10],⟨[.own 1001, .int .i64],[(1001, .sl 44)]⟩,[4,8,9],[],[],0,[0],⟨[.own 1001],[(1001, .sl 44)]⟩,[1001]⟩)],[(8,⟨[0,10],⟨[.own 1103, .int .i64],[(1103, .sl 44)]⟩,[],[],[],0,[],⟨[],[]⟩,[]⟩)],[]⟩) (exS:=⟨[.own 1],[(1, .sl 44)]⟩) Tryz.f63 (memC zaO (memC hs zB)) (by kernel_rfl) (by kernel_rfl) fun x=>by kernel_rfl
theorem znE:zl Tryz.prog (zbi Qn):=
 zl.recE (I:=I) (P:=Tryz.prog) (f:=63) (inS:=⟨[.own 0, .sl 49],[(0, .sl 44)]⟩) (cst:=[]) (outS:=⟨[.own 1],[(1, .sl 44)]⟩) (k:=1) (zc0) (by kernel_rfl) (fun S h=>znT S h)
theorem znD:zl Tryz.prog (zhO zdw):=
 okC (A:=⟨[zam qp,zbi Qn],[(4,[3]),(7,[6])],[],0,[(2,⟨[0,10],⟨[.own 1105, .int .i64],[(1105, .sl 44)]⟩,[4,8,9],[],[],0,[0],⟨[.own 1105],[(1105, .sl 44)]⟩,[1105]⟩)],[(8,⟨[0,10],⟨[.own 1207, .int .i64],[(1207, .sl 44)]⟩,[],[],[],0,[],⟨[],[]⟩,[]⟩)],[]⟩) (exS:=⟨[.own 0],[(0, .sl 44)]⟩) Tryz.f63 (memC zaO (memC znE zB)) (by kernel_rfl) (by kernel_rfl) fun x=>by kernel_rfl
theorem zrQ:zl Tryz.prog (zk9 zfL):=
 okC (A:=⟨[zco QA,zhO zdw],[],[],0,[],[],[]⟩) (exS:=⟨[.sl 44, .int .i64],[]⟩) Tryz.f18 (memC zc1 (memC znD zB)) (by kernel_rfl) (by kernel_rfl) fun x=>by kernel_rfl
theorem zaE:zl Tryz.prog (QK strings_IndexByte):=
 okC (A:=⟨[zqP zlM],[],[],0,[],[],[]⟩) (exS:=⟨[.int .i64],[]⟩) Tryz.f119 (memC zvt zB) (by kernel_rfl) (by kernel_rfl) fun x=>by kernel_rfl
theorem zpF:zl Tryz.prog (zjE zes):=
 okC (A:=⟨[QK strings_IndexByte,ZI strings_HasPrefix,zcU qM],[],[],0,[],[],[]⟩) (exS:=⟨[.bool],[]⟩) Tryz.f87 (memC zaE (memC ZX (memC zea zB))) (by kernel_rfl) (by kernel_rfl) fun x=>by kernel_rfl
theorem zeh:zl Tryz.prog (za8 stringslite_TrimPrefix):=
 okC (A:=⟨[QL stringslite_HasPrefix],[],[],0,[],[],[]⟩) (exS:=⟨[.str],[]⟩) Tryz.f197 (memC zbc zB) (by kernel_rfl) (by kernel_rfl) fun x=>by kernel_rfl
theorem zfS:zl Tryz.prog (zcO strings_TrimPrefix):=
 okC (A:=⟨[za8 stringslite_TrimPrefix],[],[],0,[],[],[]⟩) (exS:=⟨[.str],[]⟩) Tryz.f162 (memC zeh zB) (by kernel_rfl) (by kernel_rfl) fun x=>by kernel_rfl
theorem zik:zl Tryz.prog (zfs zbb):=
 okC (A:=⟨[],[],[],0,[],[],[]⟩) (exS:=⟨[.bool],[]⟩) Tryz.f155 zB (by kernel_rfl) (by kernel_rfl) fun x=>by kernel_rfl
theorem zml:zl Tryz.prog (zgL zct):=
 okC (A:=⟨[zcO strings_TrimPrefix,zfs zbb],[],[],0,[],[],[]⟩) (exS:=⟨[.bool],[]⟩) Tryz.f122 (memC zfS (memC zik zB)) (by kernel_rfl) (by kernel_rfl) fun x=>by kernel_rfl
theorem znB:zl Tryz.prog (zhM zhn):=
 okC (A:=⟨[],[],[],0,[],[],[]⟩) (exS:=⟨[.bool],[]⟩) Tryz.f157 zB (by kernel_rfl) (by kernel_rfl) fun x=>by kernel_rfl
theorem zpI:zl Tryz.prog (zjH zev):=
 okC (A:=⟨[zhM zhn,zfs zbb],[],[],0,[],[],[]⟩) (exS:=⟨[.bool],[]⟩) Tryz.f153 (memC znB (memC zik zB)) (by kernel_rfl) (by kernel_rfl) fun x=>by kernel_rfl
theorem zhs:zl Tryz.prog (zdP strings_Contains):=
 okC (A:=⟨[zoY zh9],[],[],0,[],[],[]⟩) (exS:=⟨[.bool],[]⟩) Tryz.f154 (memC zrP zB) (by kernel_rfl) (by kernel_rfl) fun x=>by kernel_rfl
theorem zrN:zl Tryz.prog (zk7 zfD):=
 okC (A:=⟨[QK strings_IndexByte,zgL zct,ZI strings_HasPrefix,zjH zev,zdP strings_Contains],[],[],0,[],[(8,⟨[3,4,5,6,7,25],⟨[.bool, .bool, .bool, .bool, .bool, .bool],[]⟩,[1,16],[],[],0,[],⟨[],[]⟩,[]⟩),(14,⟨[3,4,5,6,7,63],⟨[.bool, .bool, .bool, .bool, .bool, .bool],[]⟩,[],[],[],0,[],⟨[],[]⟩,[]⟩),(22,⟨[4,5,6,7,94],⟨[.bool, .bool, .bool, .bool, .bool],[]⟩,[3],[],[],0,[],⟨[],[]⟩,[]⟩),(24,⟨[3,4,5,6,7],⟨[.bool, .bool, .bool, .bool, .bool],[]⟩,[1],[0],[],0,[],⟨[],[]⟩,[]⟩)],[]⟩) (exS:=⟨[.bool],[]⟩) Tryz.f115 (memC zaE (memC zml (memC ZX (memC zpI (memC zhs zB))))) (by kernel_rfl) (by kernel_rfl) fun x=>by kernel_rfl
theorem zmm:zl Tryz.prog (zgM Qf):=
 okC (A:=⟨[],[],[],1,[],[],[]⟩) (exS:=⟨[.bool],[]⟩) Tryz.f116 zB (by kernel_rfl) (by kernel_rfl) fun x=>by kernel_rfl
theorem zpJ:zl Tryz.prog (zjI zew):=
 okC (A:=⟨[zgM Qf,zcT Qm],[],[],0,[],[(11,⟨[5],⟨[.int .i64],[]⟩,[3],[0],[],0,[],⟨[],[]⟩,[]⟩)],[]⟩) (exS:=⟨[.int .i64],[]⟩) Tryz.f80 (memC zmm (memC zd9 zB)) (by kernel_rfl) (by kernel_rfl) fun x=>by kernel_rfl
theorem zpH:zl Tryz.prog (zjG zda):=
 okC (A:=⟨[zk7 zfD,zjI zew],[],[],0,[(4,⟨[10],⟨[.int .i64],[]⟩,[0,8,9],[],[],0,[],⟨[],[]⟩,[]⟩)],[],[]⟩) (exS:=⟨[.int .i64],[]⟩) Tryz.f79 (memC zrN (memC zpJ zB)) (by kernel_rfl) (by kernel_rfl) fun x=>by kernel_rfl
theorem zjj(zz:List zb→Option Bool)(h_decl_closers:zl Tryz.prog (qG zz)):zl Tryz.prog (zfi (QY zz)):=
 okC (A:=⟨[zcn ZG,qG zz],[],[],0,[],[],[]⟩) (exS:=⟨[.bool],[]⟩) Tryz.f128 (memC zb0 (memC h_decl_closers zB)) (by kernel_rfl) (by kernel_rfl) fun x=>by kernel_rfl
theorem zeg(zz:List zb→Option Bool)(h_decl_closers:zl Tryz.prog (qG zz)):zl Tryz.prog (za7 (qV zz)):=
 okC (A:=⟨[zfi (QY zz)],[],[],0,[(2,⟨[8],⟨[.int .i64],[]⟩,[0,1,7],[],[],0,[],⟨[],[]⟩,[]⟩)],[],[]⟩) (exS:=⟨[.int .i64],[]⟩) Tryz.f129 (memC (zjj zz h_decl_closers) zB) (by kernel_rfl) (by kernel_rfl) fun x=>by kernel_rfl
theorem zc2(zz:List zb→Option Bool)(h_decl_closers:zl Tryz.prog (qG zz)):zl Tryz.prog (Q8 (qf zz)):=
 okC (A:=⟨[za7 (qV zz)],[],[],0,[],[],[]⟩) (exS:=⟨[.bool],[]⟩) Tryz.f89 (memC (zeg zz h_decl_closers) zB) (by kernel_rfl) (by kernel_rfl) fun x=>by kernel_rfl
theorem zmV(zz:List zb→Option Bool)(hs:zl Tryz.prog (qG zz)):zl Tryz.prog (qG (zcb zz)):=
 okC (A:=⟨[Q8 (qf zz)],[],[],0,[],[],[]⟩) (exS:=⟨[.bool],[]⟩) Tryz.f88 (memC (zc2 zz hs) zB) (by kernel_rfl) (by kernel_rfl) fun x=>by kernel_rfl
theorem zmj:zl Tryz.prog (qG zz):=
 zl.recE (I:=I) (P:=Tryz.prog) (f:=88) (inS:=⟨[.sl 49],[]⟩) (cst:=[]) (outS:=⟨[.bool],[]⟩) (k:=0) (zcb) (by kernel_rfl) (fun S h=>zmV S h)
theorem zmi:zl Tryz.prog (zgK zcs):=
 okC (A:=⟨[zcn ZG,zg9 zbo],[],[],0,[],[],[]⟩) (exS:=⟨[.bool],[]⟩) Tryz.f90 (memC zb0 (memC zjY zB)) (by kernel_rfl) (by kernel_rfl) fun x=>by kernel_rfl
theorem zdz:zl Tryz.prog (zaB qm):=
 okC (A:=⟨[zgK zcs],[],[],0,[(2,⟨[8],⟨[.int .i64],[]⟩,[0,1,7],[],[],0,[],⟨[],[]⟩,[]⟩)],[],[]⟩) (exS:=⟨[.int .i64],[]⟩) Tryz.f129 (memC zmi zB) (by kernel_rfl) (by kernel_rfl) fun x=>by kernel_rfl
theorem zcv:zl Tryz.prog (QQ Zt):=
 okC (A:=⟨[zaB qm],[],[],0,[],[],[]⟩) (exS:=⟨[.bool],[]⟩) Tryz.f89 (memC zdz zB) (by kernel_rfl) (by kernel_rfl) fun x=>by kernel_rfl
theorem zpE:zl Tryz.prog (zjD zer):=
 okC (A:=⟨[zk9 zfL,zjE zes,zjG zda,qG zz,QQ Zt,ZI strings_HasPrefix,zcn ZG],[],[],0,[],[],[]⟩) (exS:=⟨[.int .i64],[]⟩) Tryz.f52 (memC zrQ (memC zpF (memC zpH (memC zmj (memC zcv (memC ZX (memC zb0 zB))))))) (by kernel_rfl) (by kernel_rfl) fun x=>by kernel_rfl
theorem zmk:zl Tryz.prog (ziQ zeW):=
 okC (A:=⟨[zk6 zds,zjF zaq,zcn ZG,ZI strings_HasPrefix,zcU qM,zcT Qm,zg9 zbo,zla zfM,zjD zer],[],[],0,[],[(7,⟨[0],⟨[.sl 49],[(0, .cells 66 [.str, .nilv, .bool]),(1, .cells 66 [.str, .nilv, .bool])]⟩,[2,4],[],[0,1],0,[],⟨[],[]⟩,[]⟩),(16,⟨[0],⟨[.sl 49],[(0, .cells 66 [.str, .nilv, .bool]),(1, .cells 66 [.str, .nilv, .bool])]⟩,[],[],[0,1],0,[],⟨[],[]⟩,[]⟩)],[]⟩) (exS:=⟨[.optr 0, .bool],[(0, .row 66)]⟩) Tryz.f73 (memC zrM (memC zpG (memC zb0 (memC ZX (memC zea (memC zd9 (memC zjY (memC zrR (memC zpE zB))))))))) (by kernel_rfl) (by kernel_rfl) fun x=>by kernel_rfl
theorem ztj:zl Tryz.prog (znW zh2):=
 okC (A:=⟨[zco QA,ziQ zeW],[],[],0,[],[],[]⟩) (exS:=⟨[.optr 0, .bool, .int .i64],[(0, .row 66)]⟩) Tryz.f37 (memC zc1 (memC zmk zB)) (by kernel_rfl) (by kernel_rfl) fun x=>by kernel_rfl
theorem zmW(ZB:List zb→Option (List zf))(hs:zl Tryz.prog (Ql ZB)):zl Tryz.prog (Ql (zcg ZB)):=
 okC (A:=⟨[zaF qi,Ql ZB],[(5,[6]),(9,[3])],[],0,[(3,⟨[3,4],⟨[.own 1208, .int .i64],[(1208, .sl 44)]⟩,[0,2],[],[],0,[3],⟨[.own 1208],[(1208, .sl 44)]⟩,[1208]⟩)],[(4,⟨[3,4],⟨[.own 1310, .int .i64],[(1310, .sl 44)]⟩,[],[],[],0,[],⟨[],[]⟩,[]⟩)],[]⟩) (exS:=⟨[.sl 44],[]⟩) Tryz.f36 (memC zbA (memC hs zB)) (by kernel_rfl) (by kernel_rfl) fun x=>by kernel_rfl
theorem zdy:zl Tryz.prog (Ql ZB):=
 zl.recE (I:=I) (P:=Tryz.prog) (f:=36) (inS:=⟨[.sl 49],[]⟩) (cst:=[]) (outS:=⟨[.sl 44],[]⟩) (k:=0) (zcg) (by kernel_rfl) (fun S h=>zmW S h)
theorem zmX(qI:List zb×Int→Option Bool)(hs:zl Tryz.prog (zaG qI)):zl Tryz.prog (zaG (zch qI)):=
 okC (A:=⟨[zaF qi,zaG qI],[],[],0,[(2,⟨[5],⟨[.int .i64],[]⟩,[0,1],[],[],0,[],⟨[],[]⟩,[]⟩)],[],[]⟩) (exS:=⟨[.bool],[]⟩) Tryz.f66 (memC zbA (memC hs zB)) (by kernel_rfl) (by kernel_rfl) fun x=>by kernel_rfl
theorem zmr:zl Tryz.prog (zaG qI):=
 zl.recE (I:=I) (P:=Tryz.prog) (f:=66) (inS:=⟨[.sl 49, .int .u8],[]⟩) (cst:=[]) (outS:=⟨[.bool],[]⟩) (k:=0) (zch) (by kernel_rfl) (fun S h=>zmX S h)
theorem zef:zl Tryz.prog (zcZ QN):=
 okC (A:=⟨[za6 Qa,Ql ZB,zaG qI],[],[],0,[],[],[]⟩) (exS:=⟨[.int .i64],[]⟩) Tryz.f27 (memC zio (memC zdy (memC zmr zB))) (by kernel_rfl) (by kernel_rfl) fun x=>by kernel_rfl
theorem zcJ:zl Tryz.prog (zbk ZH):=
 okC (A:=⟨[],[],[],0,[(1,⟨[0],⟨[.sl 49],[]⟩,[2],[],[],0,[0],⟨[.sl 49],[]⟩,[]⟩),(3,⟨[0],⟨[.sl 49],[]⟩,[2],[],[],2,[0],⟨[.sl 49],[]⟩,[]⟩)],[],[]⟩) (exS:=⟨[.sl 49],[]⟩) Tryz.f110 zB (by kernel_rfl) (by kernel_rfl) fun x=>by kernel_rfl
theorem zed:zl Tryz.prog (zcX Qs):=
 okC (A:=⟨[],[],[],0,[],[],[]⟩) (exS:=⟨[.int .u8],[]⟩) Tryz.f150 zB (by kernel_rfl) (by kernel_rfl) fun x=>by kernel_rfl
theorem zec:zl Tryz.prog (zcW ZR):=
 okC (A:=⟨[zcX Qs],[],[],0,[(3,⟨[4],⟨[.int .i64],[(0, .sl 5)]⟩,[2,3],[],[0],0,[],⟨[],[(0, .sl 5)]⟩,[0]⟩)],[],[]⟩) (exS:=⟨[.str],[]⟩) Tryz.f105 (memC zed zB) (by kernel_rfl) (by kernel_rfl) fun x=>by kernel_rfl
theorem zeb:zl Tryz.prog (zcV Z7):=
 okC (A:=⟨[zcW ZR],[],[],0,[],[],[]⟩) (exS:=⟨[.bool],[]⟩) Tryz.f72 (memC zec zB) (by kernel_rfl) (by kernel_rfl) fun x=>by kernel_rfl
theorem zmv:zl Tryz.prog (zgT zcB):=
 okC (A:=⟨[zcV Z7,zbk ZH],[],[],0,[],[],[]⟩) (exS:=⟨[.sl 49, .bool],[]⟩) Tryz.f111 (memC zeb (memC zcJ zB)) (by kernel_rfl) (by kernel_rfl) fun x=>by kernel_rfl
theorem znN:zl Tryz.prog (zhX zdH):=
 okC (A:=⟨[zcW ZR],[],[],0,[(4,⟨[3],⟨[.int .i64],[]⟩,[0],[],[],0,[],⟨[],[]⟩,[]⟩)],[],[]⟩) (exS:=⟨[.bool],[]⟩) Tryz.f94 (memC zec zB) (by kernel_rfl) (by kernel_rfl) fun x=>by kernel_rfl
theorem znI:zl Tryz.prog (zhS zal):=
 okC (A:=⟨[],[],[],0,[(2,⟨[3],⟨[.int .i64],[]⟩,[0],[],[],0,[],⟨[],[]⟩,[]⟩)],[],[]⟩) (exS:=⟨[.bool],[]⟩) Tryz.f102 zB (by kernel_rfl) (by kernel_rfl) fun x=>by kernel_rfl
theorem Qq:zl Tryz.prog (Qc zG):=
 okC (A:=⟨[],[],[],0,[],[],[]⟩) (exS:=⟨[.bool],[]⟩) Tryz.f148 zB (by kernel_rfl) (by kernel_rfl) fun x=>by kernel_rfl
theorem zpP:zl Tryz.prog (zjO zeK):=
 okC (A:=⟨[Qc zG],[],[],0,[],[],[]⟩) (exS:=⟨[.bool],[]⟩) Tryz.f103 (memC Qq zB) (by kernel_rfl) (by kernel_rfl) fun x=>by kernel_rfl
theorem zcf:zl Tryz.prog (zbj ZT):=
 okC (A:=⟨[],[],[],0,[],[],[]⟩) (exS:=⟨[.bool],[]⟩) Tryz.f178 zB (by kernel_rfl) (by kernel_rfl) fun x=>by kernel_rfl
theorem Qp:zl Tryz.prog (Qx zx):=
 okC (A:=⟨[],[],[],0,[],[],[]⟩) (exS:=⟨[.int .u8],[]⟩) Tryz.f217 zB (by kernel_rfl) (by kernel_rfl) fun x=>by kernel_rfl
theorem zdx:zl Tryz.prog (zb9 ZY):=
 okC (A:=⟨[Qx zx,zbj ZT],[],[],0,[(1,⟨[1],⟨[.int .i64],[]⟩,[0,4],[],[],0,[1],⟨[.int .i64],[]⟩,[]⟩)],[],[]⟩) (exS:=⟨[.int .i64],[]⟩) Tryz.f179 (memC Qp (memC zcf zB)) (by kernel_rfl) (by kernel_rfl) fun x=>by kernel_rfl
theorem zin:zl Tryz.prog (zfu zbd):=
 okC (A:=⟨[],[(1,[0])],[],0,[],[],[]⟩) (exS:=⟨[.str],[]⟩) Tryz.f244 zB (by kernel_rfl) (by kernel_rfl) fun x=>by kernel_rfl
theorem zrU:zl Tryz.prog (zlc zbE):=
 okC (A:=⟨[Qc zG,zcX Qs],[],[],0,[],[],[]⟩) (exS:=⟨[.int .i64],[]⟩) Tryz.f245 (memC Qq (memC zed zB)) (by kernel_rfl) (by kernel_rfl) fun x=>by kernel_rfl
theorem zpM:zl Tryz.prog (zjL zdd):=
 okC (A:=⟨[zfu zbd],[(4,[2]),(6,[8]),(8,[13]),(9,[18])],[],0,[],[],[]⟩) (exS:=⟨[.str],[]⟩) Tryz.f246 (memC zin zB) (by kernel_rfl) (by kernel_rfl) fun x=>by kernel_rfl
theorem zaZ:zl Tryz.prog (Q6 Zf):=
 okC (A:=⟨[zfu zbd,zlc zbE,Qx zx,zbj ZT,zjL zdd],[],[],0,[(7,⟨[6,7],⟨[.int .i64, .int .i64],[]⟩,[0,1,4,5],[],[],0,[6,7],⟨[.int .i64, .int .i64],[]⟩,[]⟩)],[(12,⟨[7],⟨[.int .i64],[]⟩,[6],[],[],0,[],⟨[],[]⟩,[]⟩)],[]⟩) (exS:=⟨[.str, .int .i64],[]⟩) Tryz.f218 (memC zin (memC zrU (memC Qp (memC zcf (memC zpM zB))))) (by kernel_rfl) (by kernel_rfl) fun x=>by kernel_rfl
theorem zmp:zl Tryz.prog (zgP zak):=
 okC (A:=⟨[Q6 Zf],[],[],0,[(4,⟨[1],⟨[.int .i64],[(0, .row 44),(1, .row 44)]⟩,[0,4,6,7],[],[0,1],0,[1],⟨[.int .i64],[(0, .row 44),(1, .row 44)]⟩,[0,1]⟩)],[],[]⟩) (exS:=⟨[.optr 0, .int .i64],[(0, .row 44)]⟩) Tryz.f180 (memC zaZ zB) (by kernel_rfl) (by kernel_rfl) fun x=>by kernel_rfl
theorem zfQ:zl Tryz.prog (zd3 zaj):=
 okC (A:=⟨[zcX Qs],[],[],0,[],[],[]⟩) (exS:=⟨[.bool],[]⟩) Tryz.f198 (memC zed zB) (by kernel_rfl) (by kernel_rfl) fun x=>by kernel_rfl
theorem zfO:zl Tryz.prog (zd1 Qh):=
 okC (A:=⟨[zd3 zaj,Qc zG],[],[],0,[],[],[]⟩) (exS:=⟨[.bool],[]⟩) Tryz.f163 (memC zfQ (memC Qq zB)) (by kernel_rfl) (by kernel_rfl) fun x=>by kernel_rfl
theorem zaf:zl Tryz.prog (QX zQ):=
 okC (A:=⟨[Qx zx],[],[],0,[],[],[]⟩) (exS:=⟨[.bool],[]⟩) Tryz.f181 (memC Qp zB) (by kernel_rfl) (by kernel_rfl) fun x=>by kernel_rfl
theorem zee:zl Tryz.prog (zcY qw):=
 okC (A:=⟨[zd1 Qh,QX zQ,Q6 Zf],[],[],0,[(2,⟨[1,6],⟨[.int .i64, .str],[]⟩,[0],[],[],0,[],⟨[],[]⟩,[]⟩)],[],[]⟩) (exS:=⟨[.str, .int .i64],[]⟩) Tryz.f182 (memC zfO (memC zaf (memC zaZ zB))) (by kernel_rfl) (by kernel_rfl) fun x=>by kernel_rfl
theorem zfP:zl Tryz.prog (zd2 ZN):=
 okC (A:=⟨[Qx zx,zd3 zaj,QX zQ],[],[],0,[],[],[]⟩) (exS:=⟨[.bool],[]⟩) Tryz.f183 (memC Qp (memC zfQ (memC zaf zB))) (by kernel_rfl) (by kernel_rfl) fun x=>by kernel_rfl
theorem zjk:zl Tryz.prog (zfj Q0):=
 okC (A:=⟨[Qx zx,Qc zG],[],[],0,[],[(4,⟨[1],⟨[.int .i64],[]⟩,[0],[],[],0,[],⟨[],[]⟩,[]⟩),(6,⟨[1],⟨[.int .i64],[]⟩,[],[],[],0,[],⟨[],[]⟩,[]⟩)],[]⟩) (exS:=⟨[.bool],[]⟩) Tryz.f184 (memC Qp (memC Qq zB)) (by kernel_rfl) (by kernel_rfl) fun x=>by kernel_rfl
theorem zmo:zl Tryz.prog (zgO qH):=
 okC (A:=⟨[Qx zx,Qc zG],[],[],0,[(1,⟨[1],⟨[.int .i64],[]⟩,[0,4],[],[],0,[1],⟨[.int .i64],[]⟩,[]⟩)],[],[]⟩) (exS:=⟨[.int .i64],[]⟩) Tryz.f247 (memC Qp (memC Qq zB)) (by kernel_rfl) (by kernel_rfl) fun x=>by kernel_rfl
theorem zim:zl Tryz.prog (zep qO):=
 okC (A:=⟨[Qx zx,zgO qH,Qc zG],[],[],0,[],[(4,⟨[1],⟨[.int .i64],[]⟩,[0],[],[],0,[],⟨[],[]⟩,[]⟩),(9,⟨[1,7],⟨[.int .i64, .bool],[]⟩,[],[],[],0,[],⟨[],[]⟩,[]⟩),(15,⟨[1,7,9],⟨[.int .i64, .bool, .int .i64],[]⟩,[],[],[],0,[],⟨[],[]⟩,[]⟩),(18,⟨[1,7],⟨[.int .i64, .bool],[]⟩,[],[],[],0,[],⟨[],[]⟩,[]⟩)],[]⟩) (exS:=⟨[.int .i64, .bool],[]⟩) Tryz.f219 (memC Qp (memC zmo (memC Qq zB))) (by kernel_rfl) (by kernel_rfl) fun x=>by kernel_rfl
theorem zgA:zl Tryz.prog (zdj Z8):=
 okC (A:=⟨[Qx zx,Qc zG],[],[],0,[(5,⟨[3,5],⟨[.str, .int .i64],[]⟩,[4],[],[],0,[3,5],⟨[.str, .int .i64],[]⟩,[]⟩),(10,⟨[3,4,5],⟨[.str, .int .i64, .int .i64],[]⟩,[],[],[],2,[3,4,5],⟨[.str, .int .i64, .int .i64],[]⟩,[]⟩),(20,⟨[5,8],⟨[.int .i64, .int .i64],[]⟩,[4],[],[],4,[8],⟨[.int .i64],[]⟩,[]⟩),(28,⟨[9,10],⟨[.int .i64, .int .i64],[]⟩,[4],[],[],6,[9],⟨[.int .i64],[]⟩,[]⟩),(31,⟨[4,9],⟨[.int .i64, .int .i64],[]⟩,[],[],[],8,[9],⟨[.int .i64],[]⟩,[]⟩)],[(5,⟨[3,4,5],⟨[.str, .int .i64, .int .i64],[]⟩,[0,6],[],[],0,[],⟨[],[]⟩,[]⟩),(14,⟨[3,4,5],⟨[.str, .int .i64, .int .i64],[]⟩,[],[],[],0,[],⟨[],[]⟩,[]⟩),(19,⟨[4,5],⟨[.int .i64, .int .i64],[]⟩,[3,7],[],[],0,[],⟨[],[]⟩,[]⟩),(25,⟨[4,8],⟨[.int .i64, .int .i64],[]⟩,[],[],[],0,[],⟨[],[]⟩,[]⟩),(26,⟨[4],⟨[.int .i64],[]⟩,[3],[],[],0,[],⟨[],[]⟩,[]⟩)],[]⟩) (exS:=⟨[.int .i64],[]⟩) Tryz.f220 (memC Qp (memC Qq zB)) (by kernel_rfl) (by kernel_rfl) fun x=>by kernel_rfl
theorem zkb:zl Tryz.prog (zfv QM):=
 okC (A:=⟨[zep qO,zdj Z8,zd2 ZN,zcY qw,Qx zx],[],[],0,[],[(9,⟨[6],⟨[.int .i64],[(0, .row 44),(1, .row 44)]⟩,[4,8],[],[0,1],0,[],⟨[],[]⟩,[]⟩)],[]⟩) (exS:=⟨[.optr 0, .int .i64],[(0, .row 44)]⟩) Tryz.f185 (memC zim (memC zgA (memC zfP (memC zee (memC Qp zB))))) (by kernel_rfl) (by kernel_rfl) fun x=>by kernel_rfl
theorem zj1:zl Tryz.prog (zhb QT):=
 okC (A:=⟨[],[],[],0,[],[],[]⟩) (exS:=⟨[.bool],[]⟩) Tryz.f186 zB (by kernel_rfl) (by kernel_rfl) fun x=>by kernel_rfl
theorem zrV:zl Tryz.prog (zld zaU):=
 okC (A:=⟨[QX zQ,Q6 Zf],[],[],0,[(1,⟨[1],⟨[.int .i64],[]⟩,[0,4,5],[0],[],0,[1],⟨[.int .i64],[]⟩,[]⟩)],[],[]⟩) (exS:=⟨[.optr 0, .int .i64],[(0, .row 44)]⟩) Tryz.f248 (memC zaf (memC zaZ zB)) (by kernel_rfl) (by kernel_rfl) fun x=>by kernel_rfl
theorem zgB:zl Tryz.prog (zdk qK):=
 okC (A:=⟨[],[],[],0,[],[],[]⟩) (exS:=⟨[.bool],[]⟩) Tryz.f249 zB (by kernel_rfl) (by kernel_rfl) fun x=>by kernel_rfl
theorem zrW:zl Tryz.prog (zle zdB):=
 okC (A:=⟨[zb9 ZY,zbj ZT,zld zaU,zdk qK,QX zQ,Q6 Zf],[],[],0,[(3,⟨[1],⟨[.int .i64],[(0, .row 44),(1, .row 44)]⟩,[0,4,6],[],[0,1],0,[1],⟨[.int .i64],[(0, .row 44),(1, .row 44)]⟩,[0,1]⟩)],[],[]⟩) (exS:=⟨[.optr 0, .int .i64],[(0, .row 44)]⟩) Tryz.f221 (memC zdx (memC zcf (memC zrV (memC zgB (memC zaf (memC zaZ zB)))))) (by kernel_rfl) (by kernel_rfl) fun x=>by kernel_rfl
theorem zpO:zl Tryz.prog (zjN zb4):=
 okC (A:=⟨[zcY qw,Qx zx,zcV Z7,zb9 ZY,zle zdB],[],[],0,[],[(8,⟨[],⟨[],[(0, .row 44)]⟩,[4,6,7],[],[0],0,[],⟨[],[]⟩,[]⟩)],[]⟩) (exS:=⟨[.optr 0, .int .i64],[(0, .row 44)]⟩) Tryz.f187 (memC zee (memC Qp (memC zeb (memC zdx (memC zrW zB))))) (by kernel_rfl) (by kernel_rfl) fun x=>by kernel_rfl
theorem zpN:zl Tryz.prog (zjM zb3):=
 okC (A:=⟨[],[],[],0,[],[],[]⟩) (exS:=⟨[.int .u8],[]⟩) Tryz.f188 zB (by kernel_rfl) (by kernel_rfl) fun x=>by kernel_rfl
theorem zj0:zl Tryz.prog (zha zaT):=
 okC (A:=⟨[zbj ZT,zb9 ZY,zgP zak,zd1 Qh,QX zQ,zcY qw,zd2 ZN,zfj Q0,zfv QM,zhb QT,zjN zb4,zjM zb3],[],[],0,[],[],[]⟩) (exS:=⟨[.optr 0, .int .i64],[(0, .row 44)]⟩) Tryz.f149 (memC zcf (memC zdx (memC zmp (memC zfO (memC zaf (memC zee (memC zfP (memC zjk (memC zkb (memC zj1 (memC zpO (memC zpN zB)))))))))))) (by kernel_rfl) (by kernel_rfl) fun x=>by kernel_rfl
theorem znH:zl Tryz.prog (zhR qP):=
 okC (A:=⟨[zha zaT],[(1,[1])],[],0,[],[],[]⟩) (exS:=⟨[.bool],[]⟩) Tryz.f104 (memC zj0 zB) (by kernel_rfl) (by kernel_rfl) fun x=>by kernel_rfl
theorem zpQ:zl Tryz.prog (zjP zeL):=
 okC (A:=⟨[zhS zal,zjO zeK,zhR qP],[],[],0,[],[(6,⟨[8],⟨[.bool],[(1, .row 44)]⟩,[1,3,7],[0],[1],0,[],⟨[],[]⟩,[]⟩),(13,⟨[56],⟨[.bool],[(1, .row 44)]⟩,[],[],[1],0,[],⟨[],[]⟩,[]⟩),(21,⟨[90],⟨[.bool],[(1, .row 44)]⟩,[],[],[1],0,[],⟨[],[]⟩,[]⟩),(26,⟨[148],⟨[.bool],[]⟩,[],[1],[],0,[],⟨[],[]⟩,[]⟩)],[]⟩) (exS:=⟨[.bool],[]⟩) Tryz.f71 (memC znI (memC zpP (memC znH zB))) (by kernel_rfl) (by kernel_rfl) fun x=>by kernel_rfl
theorem znG:zl Tryz.prog (zhQ za1):=
 okC (A:=⟨[zjP zeL,zcV Z7],[],[],0,[(4,⟨[3],⟨[.int .i64],[]⟩,[0],[],[],0,[],⟨[],[]⟩,[]⟩)],[(12,⟨[4],⟨[.int .i64],[]⟩,[3],[],[],0,[],⟨[],[]⟩,[]⟩),(14,⟨[],⟨[],[]⟩,[3],[],[],0,[],⟨[],[]⟩,[]⟩)],[]⟩) (exS:=⟨[.int .i64],[]⟩) Tryz.f35 (memC zpQ (memC zeb zB)) (by kernel_rfl) (by kernel_rfl) fun x=>by kernel_rfl
theorem zkf(qd:List zb→Option Bool)(hs:zl Tryz.prog (Q7 qd)):zl Tryz.prog (Q7 (zbF qd)):=
 okC (A:=⟨[Q7 qd],[],[],0,[(2,⟨[3],⟨[.int .i64],[]⟩,[0],[],[],0,[],⟨[],[]⟩,[]⟩)],[],[]⟩) (exS:=⟨[.bool],[]⟩) Tryz.f131 (memC hs zB) (by kernel_rfl) (by kernel_rfl) fun x=>by kernel_rfl
theorem zkc:zl Tryz.prog (Q7 qd):=
 zl.recE (I:=I) (P:=Tryz.prog) (f:=131) (inS:=⟨[.sl 49],[]⟩) (cst:=[]) (outS:=⟨[.bool],[]⟩) (k:=0) (zbF) (by kernel_rfl) (fun S h=>zkf S h)
theorem zmt:zl Tryz.prog (zgR zcz):=
 okC (A:=⟨[],[],[],0,[],[],[]⟩) (exS:=⟨[.bool],[]⟩) Tryz.f132 zB (by kernel_rfl) (by kernel_rfl) fun x=>by kernel_rfl
theorem zmu:zl Tryz.prog (zgS zcA):=
 okC (A:=⟨[zcZ QN,Ql ZB,zhQ za1,Q7 qd,zbk ZH,zgR zcz],[],[],0,[(6,⟨[5],⟨[.int .i64],[]⟩,[1],[],[],0,[],⟨[],[]⟩,[]⟩)],[],[]⟩) (exS:=⟨[.bool],[]⟩) Tryz.f95 (memC zef (memC zdy (memC znG (memC zkc (memC zcJ (memC zmt zB)))))) (by kernel_rfl) (by kernel_rfl) fun x=>by kernel_rfl
theorem znM:zl Tryz.prog (zhW zdG):=
 okC (A:=⟨[zhX zdH,zgS zcA],[],[],0,[],[],[]⟩) (exS:=⟨[.int .i64],[]⟩) Tryz.f53 (memC znN (memC zmu zB)) (by kernel_rfl) (by kernel_rfl) fun x=>by kernel_rfl
theorem zg1:zl Tryz.prog (zeT za2):=
 okC (A:=⟨[zbk ZH,zcW ZR,zgT zcB,zhW zdG],[],[],0,[],[(7,⟨[0],⟨[.sl 49],[(0, .cells 66 [.str, .nilv, .bool]),(1, .cells 66 [.str, .nilv, .bool])]⟩,[2,4],[],[0,1],0,[],⟨[],[]⟩,[]⟩)],[]⟩) (exS:=⟨[.optr 0, .bool],[(0, .row 66)]⟩) Tryz.f74 (memC zcJ (memC zec (memC zmv (memC znM zB)))) (by kernel_rfl) (by kernel_rfl) fun x=>by kernel_rfl
theorem zrX:zl Tryz.prog (zlf zfZ):=
 okC (A:=⟨[zcZ QN,zeT za2],[],[],0,[],[],[]⟩) (exS:=⟨[.optr 0, .bool, .int .i64],[(0, .row 66)]⟩) Tryz.f38 (memC zef (memC zg1 zB)) (by kernel_rfl) (by kernel_rfl) fun x=>by kernel_rfl
theorem zpK:zl Tryz.prog (zjJ zeF):=
 okC (A:=⟨[zco QA,zbS QB],[(12,[7]),(15,[5])],[],0,[(9,⟨[7,8,24],⟨[.own 1312, .int .i64, .int .i64],[(1312, .sl 23)]⟩,[0,1,4,5,22,23],[],[],0,[7,8],⟨[.own 1312, .int .i64],[(1312, .sl 23)]⟩,[1312]⟩)],[(14,⟨[7,8,24],⟨[.own 1414, .int .i64, .int .i64],[(1414, .sl 23)]⟩,[],[],[],0,[],⟨[],[]⟩,[]⟩)],[]⟩) (exS:=⟨[.sl 23, .int .i64],[]⟩) Tryz.f28 (memC zc1 (memC zjZ zB)) (by kernel_rfl) (by kernel_rfl) fun x=>by kernel_rfl
theorem zox:zl Tryz.prog (zk4 zhj):=
 okC (A:=⟨[zjJ zeF,ziQ zeW],[(10,[2])],[],0,[(6,⟨[6,21],⟨[.own 1416, .int .i64],[(1416, .sl 66)]⟩,[2,3,19,20],[],[],0,[6],⟨[.own 1416],[(1416, .sl 66)]⟩,[1416]⟩)],[(11,⟨[6,21],⟨[.own 1518, .int .i64],[(1518, .sl 66)]⟩,[],[],[],0,[],⟨[],[]⟩,[]⟩)],[]⟩) (exS:=⟨[.sl 66, .int .i64],[]⟩) Tryz.f39 (memC zpK (memC zmk zB)) (by kernel_rfl) (by kernel_rfl) fun x=>by kernel_rfl
theorem znL:zl Tryz.prog (zhV zdE):=
 okC (A:=⟨[],[(1,[100000]),(6,[100001]),(8,[15]),(10,[14])],[],0,[(3,⟨[5,6],⟨[.own 1521, .int .i64],[(1521, .slo 23 [.own 1625]),(1625, .sl 49)]⟩,[0,1,4],[],[],0,[5],⟨[.own 1521],[(1521, .slo 23 [.own 1625]),(1625, .sl 49)]⟩,[1521,1625]⟩)],[(4,⟨[5,6],⟨[.own 1727, .int .i64],[(1727, .slo 23 [.own 1728]),(1728, .sl 49)]⟩,[],[],[],0,[],⟨[],[]⟩,[]⟩)],[(6,[5])]⟩) (exS:=⟨[.sl 23],[]⟩) Tryz.f112 zB (by kernel_rfl) (by kernel_rfl) fun x=>by kernel_rfl
theorem zj2:zl Tryz.prog (zhc zdF):=
 okC (A:=⟨[zhV zdE,zeT za2],[(8,[2])],[],0,[(4,⟨[3,5],⟨[.own 1730, .int .i64],[(1730, .sl 66)]⟩,[2,4],[],[],0,[3],⟨[.own 1730],[(1730, .sl 66)]⟩,[1730]⟩)],[(5,⟨[3,5],⟨[.own 1832, .int .i64],[(1832, .sl 66)]⟩,[],[],[],0,[],⟨[],[]⟩,[]⟩)],[]⟩) (exS:=⟨[.sl 66],[]⟩) Tryz.f75 (memC znL (memC zg1 zB)) (by kernel_rfl) (by kernel_rfl) fun x=>by kernel_rfl
theorem ztk:zl Tryz.prog (znX ziu):=
 okC (A:=⟨[zcZ QN,zhc zdF],[],[],0,[],[],[]⟩) (exS:=⟨[.sl 66, .int .i64],[]⟩) Tryz.f40 (memC zef (memC zj2 zB)) (by kernel_rfl) (by kernel_rfl) fun x=>by kernel_rfl
theorem zei:zl Tryz.prog (za9 Zl):=
 okC (A:=⟨[ZI strings_HasPrefix,zoY zh9],[],[],1,[(0,⟨[],⟨[],[(0, .row 133)]⟩,[0],[],[0],0,[],⟨[],[(0, .row 133)]⟩,[0]⟩)],[],[]⟩) (exS:=⟨[],[(0, .row 133)]⟩) Tryz.f100 (memC ZX (memC zrP zB)) (by kernel_rfl) (by kernel_rfl) fun x=>by kernel_rfl
theorem zA:zl Tryz.prog (zy zg):=
 okC (A:=⟨[],[],[],1,[],[],[]⟩) (exS:=⟨[.int .i64],[]⟩) Tryz.f137 zB (by kernel_rfl) (by kernel_rfl) fun x=>by kernel_rfl
theorem zaQ:zl Tryz.prog (zao qy):=
 okC (A:=⟨[],[],[],0,[],[],[]⟩) (exS:=⟨[.bool],[]⟩) Tryz.f138 zB (by kernel_rfl) (by kernel_rfl) fun x=>by kernel_rfl
theorem Q5:zl Tryz.prog (Qd zU):=
 okC (A:=⟨[zy zg,zao qy],[],[],1,[(0,⟨[],⟨[],[(0, .row 133)]⟩,[0,1],[],[0],0,[],⟨[],[(0, .row 133)]⟩,[0]⟩)],[],[]⟩) (exS:=⟨[],[(0, .row 133)]⟩) Tryz.f139 (memC zA (memC zaQ zB)) (by kernel_rfl) (by kernel_rfl) fun x=>by kernel_rfl
theorem zc3:zl Tryz.prog (Q9 qg):=
 okC (A:=⟨[],[(2,[1]),(4,[9]),(7,[14]),(9,[19])],[],0,[],[(7,⟨[25],⟨[.bool],[]⟩,[0,1,5],[],[],0,[],⟨[],[]⟩,[]⟩)],[]⟩) (exS:=⟨[.own 0],[(0, .sl 5)]⟩) Tryz.f237 zB (by kernel_rfl) (by kernel_rfl) fun x=>by kernel_rfl
theorem zgF:zl Tryz.prog (zdo qa):=
 okC (A:=⟨[Q9 qg],[(2,[3])],[],0,[],[],[]⟩) (exS:=⟨[.own 0],[(0, .sl 5)]⟩) Tryz.f210 (memC zc3 zB) (by kernel_rfl) (by kernel_rfl) fun x=>by kernel_rfl
theorem zbB:zl Tryz.prog (zaJ Z0):=
 okC (A:=⟨[],[],[],0,[],[],[]⟩) (exS:=⟨[.bool],[]⟩) Tryz.f212 zB (by kernel_rfl) (by kernel_rfl) fun x=>by kernel_rfl
theorem zaP:zl Tryz.prog (zan Zz):=
 okC (A:=⟨[zaJ Z0],[],[],0,[],[],[]⟩) (exS:=⟨[.bool],[]⟩) Tryz.f174 (memC zbB zB) (by kernel_rfl) (by kernel_rfl) fun x=>by kernel_rfl
theorem zj3:zl Tryz.prog (zhd zcE):=
 okC (A:=⟨[zan Zz,zaJ Z0],[],[],0,[],[],[]⟩) (exS:=⟨[.int .i64],[]⟩) Tryz.f211 (memC zaP (memC zbB zB)) (by kernel_rfl) (by kernel_rfl) fun x=>by kernel_rfl
theorem zdM:zl Tryz.prog (zaI ZU):=
 okC (A:=⟨[zy zg,zdo qa,zhd zcE,zao qy],[(7,[3])],[],1,[(10,⟨[6,36],⟨[.int .i64, .int .i64],[(0, .row 133)]⟩,[0,1,4],[],[0],0,[6],⟨[.int .i64],[(0, .row 133)]⟩,[0]⟩)],[(17,⟨[6],⟨[.int .i64],[(0, .row 133)]⟩,[1],[],[0],0,[],⟨[],[]⟩,[]⟩),(19,⟨[6],⟨[.int .i64],[]⟩,[],[0],[],0,[],⟨[],[]⟩,[]⟩)],[]⟩) (exS:=⟨[.own 1],[(0, .row 133),(1, .sl 5)]⟩) Tryz.f172 (memC zA (memC zgF (memC zj3 (memC zaQ zB)))) (by kernel_rfl) (by kernel_rfl) fun x=>by kernel_rfl
theorem zc4:zl Tryz.prog (zaa qh):=
 okC (A:=⟨[],[(2,[1]),(4,[9]),(7,[14]),(9,[19])],[],1,[],[(7,⟨[25],⟨[.bool],[(0, .sl 5)]⟩,[0,1,5],[],[0],0,[],⟨[],[]⟩,[]⟩)],[]⟩) (exS:=⟨[.own 1],[(1, .sl 5)]⟩) Tryz.f237 zB (by kernel_rfl) (by kernel_rfl) fun x=>by kernel_rfl
theorem zgG:zl Tryz.prog (zdp qb):=
 okC (A:=⟨[zaa qh],[(2,[3])],[],1,[],[],[]⟩) (exS:=⟨[.own 1],[(1, .sl 5)]⟩) Tryz.f210 (memC zc4 zB) (by kernel_rfl) (by kernel_rfl) fun x=>by kernel_rfl
theorem qX:zl Tryz.prog (qc zP):=
 okC (A:=⟨[zy zg,zdp qb,zhd zcE,zao qy],[(7,[3])],[],2,[(10,⟨[6,36],⟨[.int .i64, .int .i64],[(0, .row 133)]⟩,[0,1,4],[1],[0],0,[6],⟨[.int .i64],[(0, .row 133)]⟩,[0]⟩)],[(17,⟨[6],⟨[.int .i64],[(0, .row 133),(1, .sl 5)]⟩,[1],[],[0,1],0,[],⟨[],[]⟩,[]⟩),(19,⟨[6],⟨[.int .i64],[(1, .sl 5)]⟩,[],[0],[1],0,[],⟨[],[]⟩,[]⟩)],[]⟩) (exS:=⟨[.own 2],[(0, .row 133),(2, .sl 5)]⟩) Tryz.f172 (memC zA (memC zgG (memC zj3 (memC zaQ zB)))) (by kernel_rfl) (by kernel_rfl) fun x=>by kernel_rfl
theorem zfa:zl Tryz.prog (zbP qC):=
 okC (A:=⟨[zy zg,qc zP],[(5,[3])],[],1,[(4,⟨[4],⟨[.own 1833],[(0, .row 133),(1, .row 44),(1833, .sl 5)]⟩,[0,2,3],[],[0,1],0,[4],⟨[.own 1833],[(0, .row 133),(1, .row 44),(1833, .sl 5)]⟩,[0,1,1833]⟩)],[],[]⟩) (exS:=⟨[.optr 1],[(0, .row 133),(1, .row 44)]⟩) Tryz.f140 (memC zA (memC qX zB)) (by kernel_rfl) (by kernel_rfl) fun x=>by kernel_rfl
theorem zg3:zl Tryz.prog (zeV za5):=
 okC (A:=⟨[zaJ Z0],[],[],0,[],[],[]⟩) (exS:=⟨[.bool],[]⟩) Tryz.f173 (memC zbB zB) (by kernel_rfl) (by kernel_rfl) fun x=>by kernel_rfl
theorem zfT:zl Tryz.prog (zd4 zbf):=
 okC (A:=⟨[zeV za5,zan Zz],[],[],0,[],[],[]⟩) (exS:=⟨[.bool],[]⟩) Tryz.f141 (memC zg3 (memC zaP zB)) (by kernel_rfl) (by kernel_rfl) fun x=>by kernel_rfl
theorem ZQ:zl Tryz.prog (ZE zw):=
 okC (A:=⟨[zy zg],[],[],1,[],[],[]⟩) (exS:=⟨[.bool],[]⟩) Tryz.f142 (memC zA zB) (by kernel_rfl) (by kernel_rfl) fun x=>by kernel_rfl
theorem zcw:zl Tryz.prog (zaD zI):=
 okC (A:=⟨[zy zg,zeV za5,ZE zw],[],[],1,[],[],[]⟩) (exS:=⟨[.bool],[]⟩) Tryz.f143 (memC zA (memC zg3 (memC ZQ zB))) (by kernel_rfl) (by kernel_rfl) fun x=>by kernel_rfl
theorem zah:zl Tryz.prog (Qu zO):=
 okC (A:=⟨[zy zg,zd4 zbf,ZE zw,qc zP],[(5,[3])],[],1,[(2,⟨[3],⟨[.own 1834],[(0, .row 133),(1834, .sl 5)]⟩,[0],[],[0],0,[],⟨[],[]⟩,[]⟩)],[],[]⟩) (exS:=⟨[.str],[(0, .row 133)]⟩) Tryz.f144 (memC zA (memC zfT (memC ZQ (memC qX zB)))) (by kernel_rfl) (by kernel_rfl) fun x=>by kernel_rfl
theorem ze9:zl Tryz.prog (zbO ZA):=
 okC (A:=⟨[zy zg,zan Zz],[],[],1,[],[(5,⟨[3],⟨[.int .i64],[]⟩,[0],[],[],0,[],⟨[],[]⟩,[]⟩),(7,⟨[3],⟨[.int .i64],[]⟩,[],[],[],0,[],⟨[],[]⟩,[]⟩)],[]⟩) (exS:=⟨[.bool],[]⟩) Tryz.f145 (memC zA (memC zaP zB)) (by kernel_rfl) (by kernel_rfl) fun x=>by kernel_rfl
theorem zeI:zl Tryz.prog (zbn zR):=
 okC (A:=⟨[zy zg,zan Zz],[],[],1,[(0,⟨[],⟨[],[(0, .row 133)]⟩,[0,1],[],[0],0,[],⟨[],[(0, .row 133)]⟩,[0]⟩)],[],[]⟩) (exS:=⟨[],[(0, .row 133)]⟩) Tryz.f139 (memC zA (memC zaP zB)) (by kernel_rfl) (by kernel_rfl) fun x=>by kernel_rfl
theorem zeG:zl Tryz.prog (zbl qj):=
 okC (A:=⟨[zy zg,zbn zR,zan Zz],[],[],1,[],[(4,⟨[],⟨[],[(0, .row 133)]⟩,[0],[],[0],0,[],⟨[],[]⟩,[]⟩),(10,⟨[4],⟨[.bool],[(0, .row 133)]⟩,[],[],[0],0,[],⟨[],[]⟩,[]⟩),(15,⟨[4,5],⟨[.bool, .int .i64],[(0, .row 133)]⟩,[],[],[0],0,[],⟨[],[]⟩,[]⟩),(19,⟨[4],⟨[.bool],[(0, .row 133)]⟩,[],[],[0],0,[],⟨[],[]⟩,[]⟩)],[]⟩) (exS:=⟨[.bool],[(0, .row 133)]⟩) Tryz.f175 (memC zA (memC zeI (memC zaP zB))) (by kernel_rfl) (by kernel_rfl) fun x=>by kernel_rfl
theorem zgE:zl Tryz.prog (zdn QG):=
 okC (A:=⟨[ztT ziG,zk8 zbp,zAg cutF],[],[],0,[(8,⟨[6,31],⟨[.int .i64, .int .i64],[]⟩,[0,2,3,4,5,29,30],[0],[],0,[6],⟨[.int .i64],[]⟩,[]⟩),(22,⟨[12,81],⟨[.int .i64, .int .i64],[]⟩,[4,79,80],[0],[],2,[12],⟨[.int .i64],[]⟩,[]⟩),(26,⟨[4,12],⟨[.int .i64, .int .i64],[]⟩,[],[],[],4,[12],⟨[.int .i64],[]⟩,[]⟩)],[(14,⟨[0,4,6],⟨[.str, .int .i64, .int .i64],[]⟩,[3,5],[],[],0,[],⟨[],[]⟩,[]⟩),(15,⟨[0,4],⟨[.str, .int .i64],[]⟩,[3],[],[],0,[],⟨[],[]⟩,[]⟩),(20,⟨[0,4],⟨[.str, .int .i64],[]⟩,[],[],[],0,[],⟨[],[]⟩,[]⟩),(31,⟨[12],⟨[.int .i64],[]⟩,[],[],[],0,[],⟨[],[]⟩,[]⟩)],[]⟩) (exS:=⟨[.int .i64],[]⟩) Tryz.f176 (memC zxA (memC zrO (memC zBl zB))) (by kernel_rfl) (by kernel_rfl) fun x=>by kernel_rfl
theorem zeH:zl Tryz.prog (zbm ZO):=
 okC (A:=⟨[zbl qj,zdn QG,zaD zI,Qu zO,zy zg],[],[],1,[],[(9,⟨[],⟨[],[(0, .row 133),(1, .row 44),(2, .row 44)]⟩,[2,5],[],[0,1,2],0,[],⟨[],[]⟩,[]⟩)],[]⟩) (exS:=⟨[.optr 1],[(0, .row 133),(1, .row 44)]⟩) Tryz.f146 (memC zeG (memC zgE (memC zcw (memC zah (memC zA zB))))) (by kernel_rfl) (by kernel_rfl) fun x=>by kernel_rfl
theorem zgC:zl Tryz.prog (zdl Z9):=
 okC (A:=⟨[zy zg,ZE zw,zaI ZU],[],[],1,[(1,⟨[],⟨[],[(0, .row 133),(1, .row 44)]⟩,[0,2],[],[0,1],0,[],⟨[],[]⟩,[]⟩)],[],[]⟩) (exS:=⟨[.optr 1],[(0, .row 133),(1, .row 44)]⟩) Tryz.f216 (memC zA (memC ZQ (memC zdM zB))) (by kernel_rfl) (by kernel_rfl) fun x=>by kernel_rfl
theorem zgD:zl Tryz.prog (zdm QF):=
 okC (A:=⟨[Qd zU,zy zg,zao qy,zdl Z9,zaJ Z0,ZE zw,qc zP],[(18,[3])],[],1,[(3,⟨[3],⟨[.own 1835],[(0, .row 133),(1, .row 44),(1835, .sl 5)]⟩,[0,2],[],[0,1],0,[],⟨[],[]⟩,[]⟩)],[(10,⟨[3,4],⟨[.own 1835, .int .i64],[(0, .row 133),(1, .row 44),(1835, .sl 5)]⟩,[],[],[0,1,1835],0,[],⟨[],[]⟩,[]⟩)],[]⟩) (exS:=⟨[.optr 1],[(0, .row 133),(1, .row 44)]⟩) Tryz.f177 (memC Q5 (memC zA (memC zaQ (memC zgC (memC zbB (memC ZQ (memC qX zB))))))) (by kernel_rfl) (by kernel_rfl) fun x=>by kernel_rfl
theorem zfo:zl Tryz.prog (zcr ZK):=
 okC (A:=⟨[Qu zO,zy zg,zcT Qm,Qd zU,zdm QF],[],[],1,[],[(11,⟨[],⟨[],[(0, .row 133),(1, .row 44)]⟩,[2,3],[],[0,1],0,[],⟨[],[]⟩,[]⟩)],[]⟩) (exS:=⟨[.optr 1],[(0, .row 133),(1, .row 44)]⟩) Tryz.f147 (memC zah (memC zA (memC zd9 (memC Q5 (memC zgD zB))))) (by kernel_rfl) (by kernel_rfl) fun x=>by kernel_rfl
theorem zfU:zl Tryz.prog (zcP qo):=
 okC (A:=⟨[zy zg,zao qy,Qd zU,zbP qC,zd4 zbf,ZE zw,zaD zI,Qu zO,zbO ZA,zbm ZO,ZI strings_HasPrefix,zcr ZK,QK strings_IndexByte],[],[],1,[],[],[]⟩) (exS:=⟨[.optr 1],[(0, .row 133),(1, .row 44)]⟩) Tryz.f101 (memC zA (memC zaQ (memC Q5 (memC zfa (memC zfT (memC ZQ (memC zcw (memC zah (memC ze9 (memC zeH (memC ZX (memC zfo (memC zaE zB))))))))))))) (by kernel_rfl) (by kernel_rfl) fun x=>by kernel_rfl
theorem zht:zl Tryz.prog (zdQ QV):=
 okC (A:=⟨[],[(1,[2])],[],2,[],[],[]⟩) (exS:=⟨[],[(0, .cells 22 [.own 2]),(2, .sl 44)]⟩) Tryz.f70 zB (by kernel_rfl) (by kernel_rfl) fun x=>by kernel_rfl
theorem zmx:zl Tryz.prog (zgV zcF):=
 okC (A:=⟨[ztR zhZ,za9 Zl,zcP qo,zdQ QV],[],[],1,[(7,⟨[7],⟨[.int .i64],[(0, .cells 22 [.own 1836]),(1836, .sl 44),(1, .row 133)]⟩,[0,1,6],[],[0,1],0,[],⟨[],[(0, .cells 22 [.own 1836]),(1836, .sl 44),(1, .row 133)]⟩,[0,1,1836]⟩)],[],[]⟩) (exS:=⟨[.int .i64],[(0, .cells 22 [.own 1]),(1, .sl 44)]⟩) Tryz.f69 (memC zxy (memC zei (memC zfU (memC zht zB)))) (by kernel_rfl) (by kernel_rfl) fun x=>by kernel_rfl
theorem zmw:zl Tryz.prog (zgU zcD):=
 okC (A:=⟨[zgV zcF],[],[],0,[],[],[]⟩) (exS:=⟨[.sl 44, .int .i64],[]⟩) Tryz.f33 (memC zmx zB) (by kernel_rfl) (by kernel_rfl) fun x=>by kernel_rfl
theorem zrL:zl Tryz.prog (zk5 zfA):=
 okC (A:=⟨[zgU zcD,ztS parseF,zk4 zhj],[],[],0,[],[],[]⟩) (exS:=⟨[.sl 66, .int .i64],[]⟩) Tryz.f41 (memC zmw (memC zxz (memC zox zB))) (by kernel_rfl) (by kernel_rfl) fun x=>by kernel_rfl
theorem zka:zl Tryz.prog (zft zbD):=
 okC (A:=⟨[],[(10,[1]),(11,[2])],[],0,[(3,⟨[3,4],⟨[.str, .int .i64],[]⟩,[0,2],[],[],0,[3],⟨[.str],[]⟩,[]⟩)],[(4,⟨[3,4],⟨[.str, .int .i64],[]⟩,[],[],[],0,[],⟨[],[]⟩,[]⟩),(9,⟨[3,5],⟨[.str, .int .u8],[]⟩,[4],[],[],0,[],⟨[],[]⟩,[]⟩)],[]⟩) (exS:=⟨[.str],[]⟩) Tryz.f151 zB (by kernel_rfl) (by kernel_rfl) fun x=>by kernel_rfl
theorem znF:zl Tryz.prog (zhP zfd):=
 okC (A:=⟨[zft zbD],[],[],0,[],[],[]⟩) (exS:=⟨[.str, .int .i64],[]⟩) Tryz.f113 (memC zka zB) (by kernel_rfl) (by kernel_rfl) fun x=>by kernel_rfl
theorem zpL:zl Tryz.prog (zjK zb2):=
 okC (A:=⟨[zhb QT],[],[],0,[(1,⟨[1],⟨[.int .i64],[]⟩,[0,4],[],[],0,[1],⟨[.int .i64],[]⟩,[]⟩),(3,⟨[1],⟨[.int .i64],[]⟩,[],[],[],2,[1],⟨[.int .i64],[]⟩,[]⟩)],[],[]⟩) (exS:=⟨[.int .i64],[]⟩) Tryz.f152 (memC zj1 zB) (by kernel_rfl) (by kernel_rfl) fun x=>by kernel_rfl
theorem zrT:zl Tryz.prog (zlb zfX):=
 okC (A:=⟨[zjK zb2,zha zaT],[(6,[2,8])],[],0,[(4,⟨[4,5,6],⟨[.own 1837, .own 1838, .int .i64],[(1837, .sl 44),(1838, .sl 172)]⟩,[0,2,3],[],[],0,[4,5],⟨[.own 1837, .own 1838],[(1837, .sl 44),(1838, .sl 172)]⟩,[1837,1838]⟩)],[],[]⟩) (exS:=⟨[.sl 44, .sl 172],[]⟩) Tryz.f114 (memC zpL (memC zj0 zB)) (by kernel_rfl) (by kernel_rfl) fun x=>by kernel_rfl
theorem zmn:zl Tryz.prog (zgN zcx):=
 okC (A:=⟨[zhP zfd,zlb zfX],[],[],0,[],[],[]⟩) (exS:=⟨[.sl 44, .int .i64],[]⟩) Tryz.f76 (memC znF (memC zrT zB)) (by kernel_rfl) (by kernel_rfl) fun x=>by kernel_rfl
theorem zmY(ZZ:List zf×Int×Int×Int→Option (List zb×Int))(hs:zl Tryz.prog (zaH ZZ)):zl Tryz.prog (zaH (zci ZZ)):=
 okC (A:=⟨[zaF qi,zaH ZZ],[(12,[2])],[],0,[(2,⟨[1,10],⟨[.int .i64, .own 1839],[(1839, .sl 49)]⟩,[0,2,3],[],[],0,[1,10],⟨[.int .i64, .own 1839],[(1839, .sl 49)]⟩,[1839]⟩)],[(12,⟨[1,10],⟨[.int .i64, .own 1839],[(1839, .sl 49),(1840, .row 49)]⟩,[11],[],[1839,1840],0,[],⟨[],[]⟩,[]⟩)],[]⟩) (exS:=⟨[.sl 49, .int .i64],[]⟩) Tryz.f96 (memC zbA (memC hs zB)) (by kernel_rfl) (by kernel_rfl) fun x=>by kernel_rfl
theorem zms:zl Tryz.prog (zaH ZZ):=
 zl.recE (I:=I) (P:=Tryz.prog) (f:=96) (inS:=⟨[.sl 44, .int .i64, .int .u8, .int .i64],[]⟩) (cst:=[]) (outS:=⟨[.sl 49, .int .i64],[]⟩) (k:=0) (zci) (by kernel_rfl) (fun S h=>zmY S h)
theorem zmq:zl Tryz.prog (zgQ zcy):=
 okC (A:=⟨[zaH ZZ],[],[],0,[],[],[]⟩) (exS:=⟨[.sl 49, .bool],[]⟩) Tryz.f62 (memC zms zB) (by kernel_rfl) (by kernel_rfl) fun x=>by kernel_rfl
theorem znK:zl Tryz.prog (zhU zdD):=
 okC (A:=⟨[zgQ zcy,Ql ZB],[],[],0,[],[],[]⟩) (exS:=⟨[.sl 49, .int .i64],[]⟩) Tryz.f17 (memC zmq (memC zdy zB)) (by kernel_rfl) (by kernel_rfl) fun x=>by kernel_rfl
theorem zpT:zl Tryz.prog (zjQ zeM):=
 okC (A:=⟨[zgN zcx,zhU zdD,zhc zdF],[],[],0,[],[],[]⟩) (exS:=⟨[.sl 66, .int .i64],[]⟩) Tryz.f42 (memC zmn (memC znK (memC zj2 zB))) (by kernel_rfl) (by kernel_rfl) fun x=>by kernel_rfl
theorem zqf(Q4:List zb×List zb→Option Bool)(hs:zl Tryz.prog (zcp Q4)):zl Tryz.prog (zcp (zdW Q4)):=
 okC (A:=⟨[zcp Q4],[],[],0,[(4,⟨[5],⟨[.int .i64],[]⟩,[0,1],[],[],0,[],⟨[],[]⟩,[]⟩)],[],[]⟩) (exS:=⟨[.bool],[]⟩) Tryz.f22 (memC hs zB) (by kernel_rfl) (by kernel_rfl) fun x=>by kernel_rfl
theorem zpR:zl Tryz.prog (zcp Q4):=
 zl.recE (I:=I) (P:=Tryz.prog) (f:=22) (inS:=⟨[.sl 49, .sl 49],[]⟩) (cst:=[]) (outS:=⟨[.bool],[]⟩) (k:=0) (zdW) (by kernel_rfl) (fun S h=>zqf S h)
theorem zg2:zl Tryz.prog (zeU za3):=
 okC (A:=⟨[zcp Q4],[],[],0,[],[],[]⟩) (exS:=⟨[.bool],[]⟩) Tryz.f43 (memC zpR zB) (by kernel_rfl) (by kernel_rfl) fun x=>by kernel_rfl
theorem zpU:zl Tryz.prog (zjR zde):=
 okC (A:=⟨[zeU za3],[],[],0,[(4,⟨[5],⟨[.int .i64],[]⟩,[0,1],[],[],0,[],⟨[],[]⟩,[]⟩)],[],[]⟩) (exS:=⟨[.bool],[]⟩) Tryz.f44 (memC zg2 zB) (by kernel_rfl) (by kernel_rfl) fun x=>by kernel_rfl
theorem zil:zl Tryz.prog (zeo zbr):=
 okC (A:=⟨[zhT zdC,znW zh2,zlf zfZ,zk4 zhj,znX ziu,zk5 zfA,zjQ zeM,zeU za3,zjR zde],[],[],0,[],[],[]⟩) (exS:=⟨[.bool],[]⟩) Tryz.f8 (memC znJ (memC ztj (memC zrX (memC zox (memC ztk (memC zrL (memC zpT (memC zg2 (memC zpU zB))))))))) (by kernel_rfl) (by kernel_rfl) fun x=>by kernel_rfl
end Go.Lv.VT
