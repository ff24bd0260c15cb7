/- Contracts. -/
import Derived.Test.YtpcfcdmidhbkmaaGreatDoorTx
import Derived.Test.YtpcfcdmidhbkmaaGreatDoorIp
import Derived.Test.YtpcfcdmidhbkmaaGreatDoorLf
import Derived.Test.YtpcfcdmidhbkmaaGreatDoorPa
noncomputable section
set_option linter.unusedSimpArgs false
set_option linter.unusedVariables false
namespace Go.Lv.VT
set_option maxRecDepth 100000
open Go.Proofs
theorem okC{con:Con I}{S:List (Con I)}(f:Go.Func)(hS: ∀c∈S,zB Tryz.prog c)(fz:List (Nat×List Nat):=[])(pre:List (Nat×List (Nat×Option Nat)):=[])(p:Nat:=0)(cuts:List (Nat×Cut):=[])(joins:List (Nat×Cut):=[])(cls:List (Nat×List Nat):=[])(fl:Option Nat:=none)(exS:StSh:=con.outS)(hf:Tryz.prog.funcs[con.f]? =some f:=by kernel_rfl)(h:chk con (⟨S,fz,pre,p,cuts,joins,cls,fl⟩:Env0 I) f=true:=by kernel_rfl)(he: ∀x,evF2 (⟨S,fz,pre,p,cuts,joins,cls,fl⟩:Env0 I) T FK f.ntmps (rsl f) (body f) con exS x=con.F x:=by intro x;kernel_rfl):zB Tryz.prog con:=
 okC0 mixed ipOK tok rfl rfl hS hf h he
def D5(F:List zb->Option Bool):Con I:=⟨4,⟨[.sl 34],[]⟩,[],⟨[.bool],[]⟩,0,F⟩
def Y4(F:Str->Option Bool):Con I:=⟨20,⟨[.str],[]⟩,[],⟨[.bool],[]⟩,0,F⟩
def J5(F:Int->Option Bool):Con I:=⟨38,⟨[.int .u8],[]⟩,[],⟨[.bool],[]⟩,0,F⟩
def iZ(F:Str->Option Bool):Con I:=⟨21,⟨[.str],[]⟩,[],⟨[.bool],[]⟩,0,F⟩
def H5(F:Int->Option Bool):Con I:=⟨67,⟨[.int .u8],[]⟩,[],⟨[.bool],[]⟩,0,F⟩
def gX(F:Str×Int->Option Int):Con I:=⟨98,⟨[.str, .int .i64],[]⟩,[],⟨[.int .u8],[]⟩,0,F⟩
def D7(F:Str×Int->Option Int):Con I:=⟨68,⟨[.str, .int .i64],[]⟩,[],⟨[.int .i64],[]⟩,0,F⟩
def lZ(F:Unit->Option Str):Con I:=⟨124,⟨[],[]⟩,[],⟨[.str],[]⟩,0,F⟩
def K5(F:Int->Option Int):Con I:=⟨40,⟨[.int .u8],[]⟩,[],⟨[.int .u8],[]⟩,0,F⟩
def pY(F:Int->Option Int):Con I:=⟨125,⟨[.int .u8],[]⟩,[],⟨[.int .i64],[]⟩,0,F⟩
def mZ(F:Int->Option Str):Con I:=⟨126,⟨[.int .i64],[]⟩,[],⟨[.str],[]⟩,0,F⟩
def P7(F:Str×Int->Option (Str×Int)):Con I:=⟨99,⟨[.str, .int .i64],[]⟩,[],⟨[.str, .int .i64],[]⟩,0,F⟩
def F7(F:Str×Int->Option (zb×Int)):Con I:=⟨69,⟨[.str, .int .i64],[]⟩,[],⟨[.val 34, .int .i64],[]⟩,0,F⟩
def H7(F:Int->Option Bool):Con I:=⟨100,⟨[.int .u8],[]⟩,[],⟨[.bool],[]⟩,0,F⟩
def J7(F:Int->Option Bool):Con I:=⟨70,⟨[.int .u8],[]⟩,[],⟨[.bool],[]⟩,0,F⟩
def M5(F:Str×Int->Option Bool):Con I:=⟨71,⟨[.str, .int .i64],[]⟩,[],⟨[.bool],[]⟩,0,F⟩
def I5(F:Str×Int->Option (Str×Int)):Con I:=⟨72,⟨[.str, .int .i64],[]⟩,[],⟨[.str, .int .i64],[]⟩,0,F⟩
def I7(F:Str×Int->Option Bool):Con I:=⟨73,⟨[.str, .int .i64],[]⟩,[],⟨[.bool],[]⟩,0,F⟩
def F8(F:Str×Int->Option Bool):Con I:=⟨74,⟨[.str, .int .i64],[]⟩,[],⟨[.bool],[]⟩,0,F⟩
def G7(F:Str×Int->Option Int):Con I:=⟨127,⟨[.str, .int .i64],[]⟩,[],⟨[.int .i64],[]⟩,0,F⟩
def K8(F:Str×Int->Option (Int×Bool)):Con I:=⟨101,⟨[.str, .int .i64],[]⟩,[],⟨[.int .i64, .bool],[]⟩,0,F⟩
def V8(F:Str->Option Int):Con I:=⟨102,⟨[.str],[]⟩,[],⟨[.int .i64],[]⟩,0,F⟩
def O7(F:Str×Int->Option (zb×Int)):Con I:=⟨75,⟨[.str, .int .i64],[]⟩,[],⟨[.val 34, .int .i64],[]⟩,0,F⟩
def lY(F:Str×Int×Str->Option Bool):Con I:=⟨76,⟨[.str, .int .i64, .str],[]⟩,[],⟨[.bool],[]⟩,0,F⟩
def X3(F:Str->Option Str):Con I:=⟨23,⟨[.str],[]⟩,[],⟨[.str],[]⟩,0,F⟩
def Y3(F:Str×Str->Option Bool):Con I:=⟨11,⟨[.str, .str],[]⟩,[],⟨[.bool],[]⟩,0,F⟩
def mY(F:Str×Int->Option (zb×Int)):Con I:=⟨128,⟨[.str, .int .i64],[]⟩,[],⟨[.val 34, .int .i64],[]⟩,0,F⟩
def U8(F:Int->Option Bool):Con I:=⟨129,⟨[.int .u8],[]⟩,[],⟨[.bool],[]⟩,0,F⟩
def kY(F:Str×Int->Option (zb×Int)):Con I:=⟨103,⟨[.str, .int .i64],[]⟩,[],⟨[.val 34, .int .i64],[]⟩,0,F⟩
def jZ(F:Str×Int->Option (zb×Int)):Con I:=⟨77,⟨[.str, .int .i64],[]⟩,[],⟨[.val 34, .int .i64],[]⟩,0,F⟩
def kZ(F:Int->Option Int):Con I:=⟨78,⟨[.int .u8],[]⟩,[],⟨[.int .u8],[]⟩,0,F⟩
def nY(F:Str×Int->Option (zb×Int)):Con I:=⟨39,⟨[.str, .int .i64],[]⟩,[],⟨[.val 34, .int .i64],[]⟩,0,F⟩
def E5(F:Int->Option Bool):Con I:=⟨22,⟨[.int .u8],[]⟩,[],⟨[.bool],[]⟩,0,F⟩
def fZ(F:zb->Option Bool):Con I:=⟨10,⟨[.val 34],[]⟩,[],⟨[.bool],[]⟩,0,F⟩
def G5(F:List zb->Option Int):Con I:=⟨5,⟨[.sl 34],[]⟩,[],⟨[.int .i64],[]⟩,0,F⟩
def I4(F:Str->Option zb):Con I:=⟨13,⟨[.str],[]⟩,[],⟨[.val 34],[]⟩,0,F⟩
def P8(F:Str×Int->Option Int):Con I:=⟨29,⟨[.str, .int .u8],[]⟩,[],⟨[.int .i64],[]⟩,0,F⟩
def zcR(F:Str×Str->Option Bool):Con I:=⟨52,⟨[.str, .str],[]⟩,[],⟨[.bool],[]⟩,0,F⟩
def zcp(F:Str×Str->Option Str):Con I:=⟨87,⟨[.str, .str],[]⟩,[],⟨[.str],[]⟩,0,F⟩
def L9(F:Str×Str->Option Str):Con I:=⟨51,⟨[.str, .str],[]⟩,[],⟨[.str],[]⟩,0,F⟩
def vZ(F:Int->Option Bool):Con I:=⟨44,⟨[.int .u8],[]⟩,[],⟨[.bool],[]⟩,0,F⟩
def R5(F:Str->Option Bool):Con I:=⟨32,⟨[.str],[]⟩,[],⟨[.bool],[]⟩,0,F⟩
def R8(F:Str×Str->Option Bool):Con I:=⟨33,⟨[.str, .str],[]⟩,[],⟨[.bool],[]⟩,0,F⟩
def U4(F:Int->Option Bool):Con I:=⟨46,⟨[.int .u8],[]⟩,[],⟨[.bool],[]⟩,0,F⟩
def rZ(F:Int->Option Bool):Con I:=⟨41,⟨[.int .u8],[]⟩,[],⟨[.bool],[]⟩,0,F⟩
def A9(F:Str×Str->Option Bool):Con I:=⟨42,⟨[.str, .str],[]⟩,[],⟨[.bool],[]⟩,0,F⟩
def tY(F:zb->Option Bool):Con I:=⟨24,⟨[.val 34],[]⟩,[],⟨[.bool],[]⟩,0,F⟩
def P5(F:(Int×Int)×List zb->Option Bool):Con I:=⟨25,⟨[.int .i64, .int .u8, .optr 0],[(0, .row 22)]⟩,[0],⟨[.bool],[]⟩,0,F⟩
def K4(F:Str->Option Str):Con I:=⟨43,⟨[.str],[]⟩,[],⟨[.str],[]⟩,0,F⟩
def M4(F:Str×Str->Option Bool):Con I:=⟨26,⟨[.str, .str],[]⟩,[],⟨[.bool],[]⟩,0,F⟩
def oZ(F:List zb->Option Int):Con I:=⟨15,⟨[.sl 34],[]⟩,[],⟨[.int .i64],[]⟩,0,F⟩
def xZ(F:List zb->Option Int):Con I:=⟨14,⟨[.sl 34],[]⟩,[],⟨[.int .i64],[]⟩,0,F⟩
def tZ(F:Str->Option Int):Con I:=⟨28,⟨[.str],[]⟩,[],⟨[.int .i64],[]⟩,0,F⟩
def U7(F:Int×List UInt8->Option (List UInt8)):Con I:=⟨30,⟨[.own 0, .int .u8],[(0, .sl 5)]⟩,[],⟨[.own 1],[(1, .sl 5)]⟩,1,F⟩
def R4(F:(Str×Int)×List UInt8->Option (List UInt8)):Con I:=⟨27,⟨[.own 0, .str, .int .i64],[(0, .sl 5)]⟩,[],⟨[.own 1],[(1, .sl 5)]⟩,1,F⟩
def sZ(F:Unit->Option Qe):Con I:=⟨34,⟨[],[]⟩,[],⟨[.val 56],[]⟩,0,F⟩
def R7(F:(Int×Bool)×List UInt8->Option (List UInt8)):Con I:=⟨31,⟨[.own 0, .int .i64, .bool],[(0, .sl 5)]⟩,[],⟨[.own 1],[(1, .sl 5)]⟩,1,F⟩
def O4(F:zb×List UInt8->Option (List UInt8)):Con I:=⟨16,⟨[.own 0, .val 34],[(0, .sl 5)]⟩,[],⟨[.own 1],[(1, .sl 5)]⟩,1,F⟩
def zcq(F:za->Option za):Con I:=⟨36,⟨[.optr 0],[(0, .row 61)]⟩,[],⟨[],[(0, .row 61)]⟩,0,F⟩
def I9(F:Int×za->Option Int):Con I:=⟨56,⟨[.optr 0, .int .i64],[(0, .row 61)]⟩,[0],⟨[.int .i64],[]⟩,0,F⟩
def I1(F:Int->Option Bool):Con I:=⟨57,⟨[.int .i64],[]⟩,[],⟨[.bool],[]⟩,0,F⟩
def p9(F:za->Option za):Con I:=⟨58,⟨[.optr 0, .clo 57 []],[(0, .row 61)]⟩,[],⟨[],[(0, .row 61)]⟩,0,F⟩
def zbC(F:Int->Option (List UInt8)):Con I:=⟨145,⟨[.nilv, .int .i32],[]⟩,[],⟨[.own 0],[(0, .sl 5)]⟩,1,F⟩
def L8(F:Int->Option (List UInt8)):Con I:=⟨117,⟨[.nilv, .int .i32],[]⟩,[],⟨[.own 0],[(0, .sl 5)]⟩,1,F⟩
def Y6(F:Int×Int×Int->Option Bool):Con I:=⟨119,⟨[.int .i64, .int .i64, .int .i64],[]⟩,[],⟨[.bool],[]⟩,0,F⟩
def X4(F:Int->Option Bool):Con I:=⟨94,⟨[.int .i64],[]⟩,[],⟨[.bool],[]⟩,0,F⟩
def jY(F:Int->Option Int):Con I:=⟨118,⟨[.int .i64],[]⟩,[],⟨[.int .i64],[]⟩,0,F⟩
def zb4(F:za->Option (za×List UInt8)):Con I:=⟨92,⟨[.optr 0, .nilv],[(0, .row 61)]⟩,[],⟨[.own 1],[(0, .row 61),(1, .sl 5)]⟩,1,F⟩
def zbD(F:Int×List UInt8->Option (List UInt8)):Con I:=⟨145,⟨[.own 0, .int .i32],[(0, .sl 5)]⟩,[],⟨[.own 1],[(1, .sl 5)]⟩,1,F⟩
def l8(F:Int×List UInt8->Option (List UInt8)):Con I:=⟨117,⟨[.own 0, .int .i32],[(0, .sl 5)]⟩,[],⟨[.own 1],[(1, .sl 5)]⟩,1,F⟩
def zb5(F:za×List UInt8->Option (za×List UInt8)):Con I:=⟨92,⟨[.optr 0, .own 1],[(0, .row 61),(1, .sl 5)]⟩,[],⟨[.own 2],[(0, .row 61),(2, .sl 5)]⟩,1,F⟩
def U9(F:za->Option (zb×za)):Con I:=⟨59,⟨[.optr 0],[(0, .row 61)]⟩,[],⟨[.val 34],[(0, .row 61)]⟩,0,F⟩
def V4(F:Int->Option Bool):Con I:=⟨93,⟨[.int .i64],[]⟩,[],⟨[.bool],[]⟩,0,F⟩
def u6(F:Int->Option Bool):Con I:=⟨60,⟨[.int .i64],[]⟩,[],⟨[.bool],[]⟩,0,F⟩
def W9(F:Int×za->Option Bool):Con I:=⟨61,⟨[.optr 0, .int .i64],[(0, .row 61)]⟩,[0],⟨[.bool],[]⟩,0,F⟩
def K9(F:Int×za->Option Bool):Con I:=⟨62,⟨[.optr 0, .int .i64],[(0, .row 61)]⟩,[0],⟨[.bool],[]⟩,0,F⟩
def H9(F:za->Option (Str×za)):Con I:=⟨63,⟨[.optr 0],[(0, .row 61)]⟩,[],⟨[.str],[(0, .row 61)]⟩,0,F⟩
def V9(F:za->Option Bool):Con I:=⟨64,⟨[.optr 0],[(0, .row 61)]⟩,[0],⟨[.bool],[]⟩,0,F⟩
def zcU(F:za->Option za):Con I:=⟨58,⟨[.optr 0, .clo 94 []],[(0, .row 61)]⟩,[],⟨[],[(0, .row 61)]⟩,0,F⟩
def zcS(F:za->Option (Bool×za)):Con I:=⟨95,⟨[.optr 0],[(0, .row 61)]⟩,[],⟨[.bool],[(0, .row 61)]⟩,0,F⟩
def M8(F:Str->Option Int):Con I:=⟨96,⟨[.str],[]⟩,[],⟨[.int .i64],[]⟩,0,F⟩
def zcT(F:za->Option (zb×za)):Con I:=⟨65,⟨[.optr 0],[(0, .row 61)]⟩,[],⟨[.val 34],[(0, .row 61)]⟩,0,F⟩
def O8(F:za->Option (zb×za)):Con I:=⟨123,⟨[.optr 0],[(0, .row 61)]⟩,[],⟨[.val 34],[(0, .row 61)]⟩,0,F⟩
def N8(F:za->Option (zb×za)):Con I:=⟨97,⟨[.optr 0],[(0, .row 61)]⟩,[],⟨[.val 34],[(0, .row 61)]⟩,0,F⟩
def w9(F:za->Option (zb×za)):Con I:=⟨66,⟨[.optr 0],[(0, .row 61)]⟩,[],⟨[.val 34],[(0, .row 61)]⟩,0,F⟩
def J9(F:za->Option (zb×za)):Con I:=⟨37,⟨[.optr 0],[(0, .row 61)]⟩,[],⟨[.val 34],[(0, .row 61)]⟩,0,F⟩
def p8(F:(zb×Int×Int)×List zb->Option (List zb)):Con I:=⟨19,⟨[.val 34, .int .i64, .int .i64, .optr 0],[(0, .cells 22 [.own 1]),(1, .sl 34)]⟩,[],⟨[],[(0, .cells 22 [.own 2]),(2, .sl 34)]⟩,1,F⟩
def l6(F:Str->Option (Int×List zb)):Con I:=⟨18,⟨[.str, .clo 19 [0]],[(0, .cells 22 [.nilv])]⟩,[],⟨[.int .i64],[(0, .cells 22 [.own 1]),(1, .sl 34)]⟩,1,F⟩
def A7(F:Str->Option (List zb×Int)):Con I:=⟨8,⟨[.str],[]⟩,[],⟨[.sl 34, .int .i64],[]⟩,0,F⟩
def M9(F:List zb×List zb->Option Bool):Con I:=⟨17,⟨[.sl 34, .sl 34],[]⟩,[],⟨[.bool],[]⟩,0,F⟩
def wZ(F:List zb->Option (Str×Int)):Con I:=⟨7,⟨[.sl 34],[]⟩,[],⟨[.str, .int .i64],[]⟩,0,F⟩
def O5(F:Str×List zb->Option Bool):Con I:=⟨12,⟨[.str, .sl 34],[]⟩,[],⟨[.bool],[]⟩,0,F⟩
def J4(F:Unit->Option Bool):Con I:=⟨6,⟨[],[]⟩,[],⟨[.bool],[]⟩,0,F⟩
def nZ(F:List zb×List zb->Option Bool):Con I:=⟨9,⟨[.sl 34, .sl 34],[]⟩,[],⟨[.bool],[]⟩,0,F⟩
def oO(F:List zb×Int->Option Bool):Con I:=⟨3,⟨[.sl 34, .int .i64],[]⟩,[],⟨[.bool],[]⟩,0,F⟩
def dU(F:Str->Option (Str×Int)):Con I:=⟨35,⟨[.str],[]⟩,[],⟨[.str, .int .i64],[]⟩,0,F⟩
theorem aW:zB Tryz.prog (dU Rj):=NW
def mW(F:Str×Int->Option Int):Con I:=⟨45,⟨[.str, .int .u8],[]⟩,[],⟨[.int .i64],[]⟩,0,F⟩
theorem tX:zB Tryz.prog (mW Vx):=KY
def bU(F:Str×Str->Option Int):Con I:=⟨55,⟨[.str, .str],[]⟩,[],⟨[.int .i64],[]⟩,0,F⟩
theorem EM:zB Tryz.prog (bU Sk):=MW
def aU(F:Str×Str->Option Str):Con I:=⟨120,⟨[.str, .str],[]⟩,[],⟨[.str],[]⟩,0,F⟩
theorem YW:zB Tryz.prog (aU Wh):=LW
def YU(F:Str×Str->Option Str):Con I:=⟨49,⟨[.str, .str],[]⟩,[],⟨[.str],[]⟩,0,F⟩
theorem XW:zB Tryz.prog (YU ol):=KW
def rY(F:Str×Str->Option Int):Con I:=⟨121,⟨[.str, .str],[]⟩,[],⟨[.int .i64],[]⟩,0,F⟩
theorem UZ:zB Tryz.prog (rY Qw):=JZ
def MQ(F:Str×Str->Option (Str×Str×Bool)):Con I:=⟨122,⟨[.str, .str],[]⟩,[],⟨[.str, .str, .bool],[]⟩,0,F⟩
theorem KR:zB Tryz.prog (MQ cutF):=uQ
def nW(F:Int×Int->Option Str):Con I:=⟨50,⟨[.int .i64, .int .i64],[]⟩,[],⟨[.str],[]⟩,0,F⟩
theorem uX:zB Tryz.prog (nW Gp):=SX
def iX(F:(Int×Int)×List UInt8->Option (List UInt8)):Con I:=⟨47,⟨[.own 0, .int .u64, .int .i64],[(0, .sl 5)]⟩,[],⟨[.own 1],[(1, .sl 5)]⟩,1,F⟩
theorem WY:zB Tryz.prog (iX Rp):=uY
def jX(F:(Int×Int)×List UInt8->Option (List UInt8)):Con I:=⟨48,⟨[.own 0, .int .i64, .int .i64],[(0, .sl 5)]⟩,[],⟨[.own 1],[(1, .sl 5)]⟩,1,F⟩
theorem XY:zB Tryz.prog (jX Tp):=vY
theorem D6:zB Tryz.prog (D5 vz):=
 okC Tryz.f4 zT (cuts:=[(5,⟨[3,4],⟨[.int .i64, .int .i64],[]⟩,[0],[],[],0,[],⟨[],[]⟩,[]⟩)])
theorem l5:zB Tryz.prog (Y4 wm):=
 okC Tryz.f20 zT (cuts:=[(2,⟨[3],⟨[.int .i64],[]⟩,[0],[],[],0,[],⟨[],[]⟩,[]⟩)])
theorem qG:zB Tryz.prog (J5 Zd):=
 okC Tryz.f38 zT
theorem Y2:zB Tryz.prog (iZ dz):=
 okC Tryz.f21 (memC qG zT)
theorem YA:zB Tryz.prog (H5 qY):=
 okC Tryz.f67 zT
theorem qF:zB Tryz.prog (gX zQ):=
 okC Tryz.f98 zT
theorem rG:zB Tryz.prog (D7 QB):=
 okC Tryz.f68 (memC qF (memC YA zT)) (cuts:=[(1,⟨[1],⟨[.int .i64],[]⟩,[0,4],[],[],0,[1],⟨[.int .i64],[]⟩,[]⟩)])
theorem yN:zB Tryz.prog (lZ kz):=
 okC Tryz.f124 zT (fz:=[(1,[0])])
theorem lG:zB Tryz.prog (K5 Dn):=
 okC Tryz.f40 zT
theorem TZ:zB Tryz.prog (pY lm):=
 okC Tryz.f125 (memC qG (memC lG zT))
theorem M3:zB Tryz.prog (mZ pF):=
 okC Tryz.f126 (memC yN zT) (fz:=[(4,[2]),(6,[8]),(8,[13]),(9,[18])])
theorem Q8:zB Tryz.prog (P7 qX):=
 okC Tryz.f99 (memC yN (memC TZ (memC qF (memC YA (memC M3 zT))))) (cuts:=[(7,⟨[6,7],⟨[.int .i64, .int .i64],[]⟩,[0,1,4,5],[],[],0,[6,7],⟨[.int .i64, .int .i64],[]⟩,[]⟩)]) (joins:=[(12,⟨[7],⟨[.int .i64],[]⟩,[6],[],[],0,[],⟨[],[]⟩,[]⟩)])
theorem X5:zB Tryz.prog (F7 TA):=
 okC Tryz.f69 (memC Q8 zT) (cuts:=[(4,⟨[1],⟨[.int .i64],[(0, .row 34),(1, .row 34)]⟩,[0,4,6,7],[],[0,1],0,[1],⟨[.int .i64],[(0, .row 34),(1, .row 34)]⟩,[0,1]⟩)]) (exS:=⟨[.optr 0, .int .i64],[(0, .row 34)]⟩)
theorem jO:zB Tryz.prog (H7 NA):=
 okC Tryz.f100 (memC lG zT)
theorem nO:zB Tryz.prog (J7 xu):=
 okC Tryz.f70 (memC jO (memC qG zT))
theorem Qx:zB Tryz.prog (M5 ZV):=
 okC Tryz.f71 (memC qF zT)
theorem kG:zB Tryz.prog (I5 Bn):=
 okC Tryz.f72 (memC nO (memC Qx (memC Q8 zT))) (cuts:=[(2,⟨[1,6],⟨[.int .i64, .str],[]⟩,[0],[],[],0,[],⟨[],[]⟩,[]⟩)])
theorem mO:zB Tryz.prog (I7 qC):=
 okC Tryz.f73 (memC qF (memC jO (memC Qx zT)))
theorem A8:zB Tryz.prog (F8 jG):=
 okC Tryz.f74 (memC qF (memC qG zT)) (joins:=[(4,⟨[1],⟨[.int .i64],[]⟩,[0],[],[],0,[],⟨[],[]⟩,[]⟩),(6,⟨[1],⟨[.int .i64],[]⟩,[],[],[],0,[],⟨[],[]⟩,[]⟩)])
theorem Y5:zB Tryz.prog (G7 Uq):=
 okC Tryz.f127 (memC qF (memC qG zT)) (cuts:=[(1,⟨[1],⟨[.int .i64],[]⟩,[0,4],[],[],0,[1],⟨[.int .i64],[]⟩,[]⟩)])
theorem I8:zB Tryz.prog (K8 UA):=
 okC Tryz.f101 (memC qF (memC Y5 (memC qG zT))) (joins:=[(4,⟨[1],⟨[.int .i64],[]⟩,[0],[],[],0,[],⟨[],[]⟩,[]⟩),(9,⟨[1,7],⟨[.int .i64, .bool],[]⟩,[],[],[],0,[],⟨[],[]⟩,[]⟩),(15,⟨[1,7,9],⟨[.int .i64, .bool, .int .i64],[]⟩,[],[],[],0,[],⟨[],[]⟩,[]⟩),(18,⟨[1,7],⟨[.int .i64, .bool],[]⟩,[],[],[],0,[],⟨[],[]⟩,[]⟩)])
theorem D9:zB Tryz.prog (V8 QK):=
 okC Tryz.f102 (memC qF (memC qG zT)) (cuts:=[(5,⟨[3,5],⟨[.str, .int .i64],[]⟩,[4],[],[],0,[3,5],⟨[.str, .int .i64],[]⟩,[]⟩),(10,⟨[3,4,5],⟨[.str, .int .i64, .int .i64],[]⟩,[],[],[],2,[3,4,5],⟨[.str, .int .i64, .int .i64],[]⟩,[]⟩),(20,⟨[5,8],⟨[.int .i64, .int .i64],[]⟩,[4],[],[],4,[8],⟨[.int .i64],[]⟩,[]⟩),(28,⟨[9,10],⟨[.int .i64, .int .i64],[]⟩,[4],[],[],6,[9],⟨[.int .i64],[]⟩,[]⟩),(31,⟨[4,9],⟨[.int .i64, .int .i64],[]⟩,[],[],[],8,[9],⟨[.int .i64],[]⟩,[]⟩)]) (joins:=[(5,⟨[3,4,5],⟨[.str, .int .i64, .int .i64],[]⟩,[0,6],[],[],0,[],⟨[],[]⟩,[]⟩),(14,⟨[3,4,5],⟨[.str, .int .i64, .int .i64],[]⟩,[],[],[],0,[],⟨[],[]⟩,[]⟩),(19,⟨[4,5],⟨[.int .i64, .int .i64],[]⟩,[3,7],[],[],0,[],⟨[],[]⟩,[]⟩),(25,⟨[4,8],⟨[.int .i64, .int .i64],[]⟩,[],[],[],0,[],⟨[],[]⟩,[]⟩),(26,⟨[4],⟨[.int .i64],[]⟩,[3],[],[],0,[],⟨[],[]⟩,[]⟩)])
theorem C8:zB Tryz.prog (O7 GA):=
 okC Tryz.f75 (memC I8 (memC D9 (memC mO (memC kG (memC qF zT))))) (joins:=[(9,⟨[6],⟨[.int .i64],[(0, .row 34),(1, .row 34)]⟩,[4,8],[],[0,1],0,[],⟨[],[]⟩,[]⟩)]) (exS:=⟨[.optr 0, .int .i64],[(0, .row 34)]⟩)
theorem OZ:zB Tryz.prog (lY Wu):=
 okC Tryz.f76 zT
theorem H6:zB Tryz.prog (X3 En):=
 okC Tryz.f23 (memC lG zT) (cuts:=[(3,⟨[4],⟨[.int .i64],[(0, .sl 5)]⟩,[2,3],[],[0],0,[],⟨[],[(0, .sl 5)]⟩,[0]⟩)])
theorem JO:zB Tryz.prog (Y3 qW):=
 okC Tryz.f11 (memC H6 zT)
theorem PZ:zB Tryz.prog (mY Xu):=
 okC Tryz.f128 (memC Qx (memC Q8 zT)) (cuts:=[(1,⟨[1],⟨[.int .i64],[]⟩,[0,4,5],[0],[],0,[1],⟨[.int .i64],[]⟩,[]⟩)]) (exS:=⟨[.optr 0, .int .i64],[(0, .row 34)]⟩)
theorem C9:zB Tryz.prog (U8 xG):=
 okC Tryz.f129 zT
theorem NZ:zB Tryz.prog (kY Kz):=
 okC Tryz.f103 (memC rG (memC YA (memC PZ (memC C9 (memC Qx (memC Q8 zT)))))) (cuts:=[(3,⟨[1],⟨[.int .i64],[(0, .row 34),(1, .row 34)]⟩,[0,4,6],[],[0,1],0,[1],⟨[.int .i64],[(0, .row 34),(1, .row 34)]⟩,[0,1]⟩)]) (exS:=⟨[.optr 0, .int .i64],[(0, .row 34)]⟩)
theorem J3:zB Tryz.prog (jZ gz):=
 okC Tryz.f77 (memC kG (memC qF (memC JO (memC rG (memC NZ zT))))) (joins:=[(8,⟨[],⟨[],[(0, .row 34)]⟩,[4,6,7],[],[0],0,[],⟨[],[]⟩,[]⟩)]) (exS:=⟨[.optr 0, .int .i64],[(0, .row 34)]⟩)
theorem K3:zB Tryz.prog (kZ su):=
 okC Tryz.f78 zT
theorem RZ:zB Tryz.prog (nY Nz):=
 okC Tryz.f39 (memC YA (memC rG (memC X5 (memC nO (memC Qx (memC kG (memC mO (memC A8 (memC C8 (memC OZ (memC J3 (memC K3 zT)))))))))))) (exS:=⟨[.optr 0, .int .i64],[(0, .row 34)]⟩)
theorem F6:zB Tryz.prog (E5 qH):=
 okC Tryz.f22 (memC RZ zT) (fz:=[(1,[1])])
theorem U2:zB Tryz.prog (fZ cz):=
 okC Tryz.f10 (memC l5 (memC Y2 (memC F6 zT))) (joins:=[(6,⟨[8],⟨[.bool],[(1, .row 34)]⟩,[1,3,7],[0],[1],0,[],⟨[],[]⟩,[]⟩),(13,⟨[56],⟨[.bool],[(1, .row 34)]⟩,[],[],[1],0,[],⟨[],[]⟩,[]⟩),(21,⟨[90],⟨[.bool],[(1, .row 34)]⟩,[],[],[1],0,[],⟨[],[]⟩,[]⟩),(26,⟨[148],⟨[.bool],[]⟩,[],[1],[],0,[],⟨[],[]⟩,[]⟩)])
theorem G6:zB Tryz.prog (G5 ym):=
 okC Tryz.f5 (memC U2 (memC JO zT)) (cuts:=[(4,⟨[3],⟨[.int .i64],[]⟩,[0],[],[],0,[],⟨[],[]⟩,[]⟩)]) (joins:=[(12,⟨[4],⟨[.int .i64],[]⟩,[3],[],[],0,[],⟨[],[]⟩,[]⟩),(14,⟨[],⟨[],[]⟩,[3],[],[],0,[],⟨[],[]⟩,[]⟩)])
theorem I6:zB Tryz.prog (I4 Yq):=
 okC Tryz.f13 zT (exS:=⟨[.optr 0],[(0, .row 34)]⟩)
theorem QQ:zB Tryz.prog (P8 strings_IndexByte):=
 okC Tryz.f29 (memC tX zT)
theorem pO:zB Tryz.prog (zcR stringslite_HasPrefix):=
 okC Tryz.f52 zT
theorem zcc:zB Tryz.prog (zcp stringslite_TrimPrefix):=
 okC Tryz.f87 (memC pO zT)
theorem zd4:zB Tryz.prog (L9 strings_TrimPrefix):=
 okC Tryz.f51 (memC zcc zT)
theorem JA:zB Tryz.prog (vZ Qg):=
 okC Tryz.f44 zT
theorem bO:zB Tryz.prog (R5 Wq):=
 okC Tryz.f32 (memC zd4 (memC JA zT))
theorem Z4:zB Tryz.prog (R8 strings_HasPrefix):=
 okC Tryz.f33 (memC pO zT)
theorem MO:zB Tryz.prog (U4 BA):=
 okC Tryz.f46 zT
theorem oN:zB Tryz.prog (rZ Rn):=
 okC Tryz.f41 (memC MO (memC JA zT))
theorem Y8:zB Tryz.prog (A9 strings_Contains):=
 okC Tryz.f42 (memC EM zT)
theorem VZ:zB Tryz.prog (tY bu):=
 okC Tryz.f24 (memC QQ (memC bO (memC Z4 (memC oN (memC Y8 zT))))) (joins:=[(8,⟨[3,4,5,6,7,25],⟨[.bool, .bool, .bool, .bool, .bool, .bool],[]⟩,[1,16],[],[],0,[],⟨[],[]⟩,[]⟩),(14,⟨[3,4,5,6,7,63],⟨[.bool, .bool, .bool, .bool, .bool, .bool],[]⟩,[],[],[],0,[],⟨[],[]⟩,[]⟩),(22,⟨[4,5,6,7,94],⟨[.bool, .bool, .bool, .bool, .bool],[]⟩,[3],[],[],0,[],⟨[],[]⟩,[]⟩),(24,⟨[3,4,5,6,7],⟨[.bool, .bool, .bool, .bool, .bool],[]⟩,[1],[0],[],0,[],⟨[],[]⟩,[]⟩)])
theorem u7:zB Tryz.prog (P5 Zp):=
 okC Tryz.f25 zT (p:=1)
theorem K6:zB Tryz.prog (K4 Jn):=
 okC Tryz.f43 zT (cuts:=[(3,⟨[10],⟨[.int .i64],[(0, .sl 5)]⟩,[2,3,8,9],[],[0],0,[],⟨[],[(0, .sl 5)]⟩,[0]⟩)]) (joins:=[(7,⟨[10],⟨[.int .i64],[(0, .sl 5)]⟩,[],[],[0],0,[],⟨[],[]⟩,[]⟩)])
theorem KO:zB Tryz.prog (M4 Kn):=
 okC Tryz.f26 (memC K6 zT)
theorem nN:zB Tryz.prog (oZ Qh):=
 okC Tryz.f15 (memC u7 (memC KO zT)) (joins:=[(11,⟨[5],⟨[.int .i64],[]⟩,[3],[0],[],0,[],⟨[],[]⟩,[]⟩)])
theorem V3:zB Tryz.prog (xZ Kl):=
 okC Tryz.f14 (memC VZ (memC nN zT)) (cuts:=[(4,⟨[10],⟨[.int .i64],[]⟩,[0,8,9],[],[],0,[],⟨[],[]⟩,[]⟩)])
theorem U3:zB Tryz.prog (tZ Z8):=
 okC Tryz.f28 (memC Z4 zT)
theorem aO:zB Tryz.prog (U7 Zt):=
 okC Tryz.f30 (memC JA (memC MO (memC WY zT))) (fz:=[(2,[2]),(3,[1]),(5,[1])]) (p:=1)
theorem M6:zB Tryz.prog (R4 ZY):=
 okC Tryz.f27 (memC oN (memC JA (memC aO zT))) (fz:=[(6,[2])]) (p:=1) (cuts:=[(2,⟨[0,11],⟨[.own 1106, .int .i64],[(1106, .sl 5)]⟩,[1,2,6,10],[],[],0,[0],⟨[.own 1106],[(1106, .sl 5)]⟩,[1106]⟩)]) (joins:=[(8,⟨[0,11],⟨[.own 1208, .int .i64],[(1208, .sl 5)]⟩,[],[],[],0,[],⟨[],[]⟩,[]⟩)])
theorem R3:zB Tryz.prog (sZ lu):=
 okC Tryz.f34 zT (exS:=⟨[.optr 0],[(0, .row 56)]⟩)
theorem D8:zB Tryz.prog (R7 Z6):=
 okC Tryz.f31 (memC XY (memC uX (memC XW zT))) (fz:=[(2,[1]),(6,[1])]) (p:=1) (joins:=[(3,⟨[0,1],⟨[.own 1730, .int .i64],[(1730, .sl 5)]⟩,[2],[],[],0,[],⟨[],[]⟩,[]⟩),(9,⟨[0],⟨[.own 1833],[(1833, .sl 5)]⟩,[],[],[],0,[],⟨[],[]⟩,[]⟩)])
theorem L6:zB Tryz.prog (O4 Nn):=
 okC Tryz.f16 (memC U3 (memC M6 (memC QQ (memC aO (memC D8 (memC bO (memC Z4 (memC R3 zT)))))))) (fz:=[(5,[7]),(7,[1]),(12,[1]),(14,[1]),(20,[2]),(22,[1]),(30,[2]),(32,[1]),(38,[4])]) (p:=1) (cuts:=[(16,⟨[0,67],⟨[.own 1523, .int .i64],[(1523, .sl 5)]⟩,[3,4,65,66],[1,4],[],1,[0],⟨[.own 1523],[(1523, .sl 5)]⟩,[1523]⟩),(26,⟨[0,93],⟨[.own 1627, .int .i64],[(1627, .sl 5)]⟩,[3,4,91,92],[1,3],[],3,[0],⟨[.own 1627],[(1627, .sl 5)]⟩,[1627]⟩)]) (joins:=[(12,⟨[5],⟨[.int .i64],[(0, .sl 5)]⟩,[0,3],[1],[0],0,[],⟨[],[]⟩,[]⟩),(21,⟨[0,67],⟨[.own 1625, .int .i64],[(1625, .sl 5)]⟩,[],[],[],0,[],⟨[],[]⟩,[]⟩),(31,⟨[0,93],⟨[.own 1729, .int .i64],[(1729, .sl 5)]⟩,[],[],[],0,[],⟨[],[]⟩,[]⟩)])
theorem zcd:zB Tryz.prog (zcq z8):=
 okC Tryz.f36 (memC Z4 (memC EM zT)) (p:=1) (cuts:=[(0,⟨[],⟨[],[(0, .row 61)]⟩,[0],[],[0],0,[],⟨[],[(0, .row 61)]⟩,[0]⟩)])
theorem zD:zB Tryz.prog (I9 zf):=
 okC Tryz.f56 zT (p:=1)
theorem QZ:zB Tryz.prog (I1 ZZ):=
 okC Tryz.f57 zT
theorem Qn:zB Tryz.prog (p9 zY):=
 okC Tryz.f58 (memC zD (memC QZ zT)) (p:=1) (cuts:=[(0,⟨[],⟨[],[(0, .row 61)]⟩,[0,1],[],[0],0,[],⟨[],[(0, .row 61)]⟩,[0]⟩)])
theorem zbr:zB Tryz.prog (zbC qK):=
 okC Tryz.f145 zT (fz:=[(2,[1]),(4,[9]),(7,[14]),(9,[19])]) (joins:=[(7,⟨[25],⟨[.bool],[]⟩,[0,1,5],[],[],0,[],⟨[],[]⟩,[]⟩)])
theorem O9:zB Tryz.prog (L8 ZB):=
 okC Tryz.f117 (memC zbr zT) (fz:=[(2,[3])])
theorem VA:zB Tryz.prog (Y6 qD):=
 okC Tryz.f119 zT
theorem QY:zB Tryz.prog (X4 ZI):=
 okC Tryz.f94 (memC VA zT)
theorem gN:zB Tryz.prog (jY Q4):=
 okC Tryz.f118 (memC QY (memC VA zT))
theorem zbU:zB Tryz.prog (zb4 Zk):=
 okC Tryz.f92 (memC zD (memC O9 (memC gN (memC QZ zT)))) (fz:=[(7,[3])]) (p:=1) (cuts:=[(10,⟨[6,36],⟨[.int .i64, .int .i64],[(0, .row 61)]⟩,[0,1,4],[],[0],0,[6],⟨[.int .i64],[(0, .row 61)]⟩,[0]⟩)]) (joins:=[(17,⟨[6],⟨[.int .i64],[(0, .row 61)]⟩,[1],[],[0],0,[],⟨[],[]⟩,[]⟩),(19,⟨[6],⟨[.int .i64],[]⟩,[],[0],[],0,[],⟨[],[]⟩,[]⟩)])
theorem zbs:zB Tryz.prog (zbD qL):=
 okC Tryz.f145 zT (fz:=[(2,[1]),(4,[9]),(7,[14]),(9,[19])]) (p:=1) (joins:=[(7,⟨[25],⟨[.bool],[(0, .sl 5)]⟩,[0,1,5],[],[0],0,[],⟨[],[]⟩,[]⟩)])
theorem N9:zB Tryz.prog (l8 ZC):=
 okC Tryz.f117 (memC zbs zT) (fz:=[(2,[3])]) (p:=1)
theorem qo:zB Tryz.prog (zb5 zX):=
 okC Tryz.f92 (memC zD (memC N9 (memC gN (memC QZ zT)))) (fz:=[(7,[3])]) (p:=2) (cuts:=[(10,⟨[6,36],⟨[.int .i64, .int .i64],[(0, .row 61)]⟩,[0,1,4],[1],[0],0,[6],⟨[.int .i64],[(0, .row 61)]⟩,[0]⟩)]) (joins:=[(17,⟨[6],⟨[.int .i64],[(0, .row 61),(1, .sl 5)]⟩,[1],[],[0,1],0,[],⟨[],[]⟩,[]⟩),(19,⟨[6],⟨[.int .i64],[(1, .sl 5)]⟩,[],[0],[1],0,[],⟨[],[]⟩,[]⟩)])
theorem X9:zB Tryz.prog (U9 ZL):=
 okC Tryz.f59 (memC zD (memC qo zT)) (fz:=[(5,[3])]) (p:=1) (cuts:=[(4,⟨[4],⟨[.own 1835],[(0, .row 61),(1, .row 34),(1835, .sl 5)]⟩,[0,2,3],[],[0,1],0,[4],⟨[.own 1835],[(0, .row 61),(1, .row 34),(1835, .sl 5)]⟩,[0,1,1835]⟩)]) (exS:=⟨[.optr 1],[(0, .row 61),(1, .row 34)]⟩)
theorem FO:zB Tryz.prog (V4 uu):=
 okC Tryz.f93 (memC VA zT)
theorem fO:zB Tryz.prog (u6 Tq):=
 okC Tryz.f60 (memC FO (memC QY zT))
theorem ZG:zB Tryz.prog (W9 zC):=
 okC Tryz.f61 (memC zD zT) (p:=1)
theorem rO:zB Tryz.prog (K9 zH):=
 okC Tryz.f62 (memC zD (memC FO (memC ZG zT))) (p:=1)
theorem Qy:zB Tryz.prog (H9 zS):=
 okC Tryz.f63 (memC zD (memC fO (memC ZG (memC qo zT)))) (fz:=[(5,[3])]) (p:=1) (cuts:=[(2,⟨[3],⟨[.own 1836],[(0, .row 61),(1836, .sl 5)]⟩,[0],[],[0],0,[],⟨[],[]⟩,[]⟩)])
theorem Y9:zB Tryz.prog (V9 Zo):=
 okC Tryz.f64 (memC zD (memC QY zT)) (p:=1) (joins:=[(5,⟨[3],⟨[.int .i64],[]⟩,[0],[],[],0,[],⟨[],[]⟩,[]⟩),(7,⟨[3],⟨[.int .i64],[]⟩,[],[],[],0,[],⟨[],[]⟩,[]⟩)])
theorem zcG:zB Tryz.prog (zcU zO):=
 okC Tryz.f58 (memC zD (memC QY zT)) (p:=1) (cuts:=[(0,⟨[],⟨[],[(0, .row 61)]⟩,[0,1],[],[0],0,[],⟨[],[(0, .row 61)]⟩,[0]⟩)])
theorem zcE:zB Tryz.prog (zcS Zy):=
 okC Tryz.f95 (memC zD (memC zcG (memC QY zT))) (p:=1) (joins:=[(4,⟨[],⟨[],[(0, .row 61)]⟩,[0],[],[0],0,[],⟨[],[]⟩,[]⟩),(10,⟨[4],⟨[.bool],[(0, .row 61)]⟩,[],[],[0],0,[],⟨[],[]⟩,[]⟩),(15,⟨[4,5],⟨[.bool, .int .i64],[(0, .row 61)]⟩,[],[],[0],0,[],⟨[],[]⟩,[]⟩),(19,⟨[4],⟨[.bool],[(0, .row 61)]⟩,[],[],[0],0,[],⟨[],[]⟩,[]⟩)])
theorem P9:zB Tryz.prog (M8 Zl):=
 okC Tryz.f96 (memC YW (memC UZ (memC KR zT))) (cuts:=[(8,⟨[6,31],⟨[.int .i64, .int .i64],[]⟩,[0,2,3,4,5,29,30],[0],[],0,[6],⟨[.int .i64],[]⟩,[]⟩),(22,⟨[12,81],⟨[.int .i64, .int .i64],[]⟩,[4,79,80],[0],[],2,[12],⟨[.int .i64],[]⟩,[]⟩),(26,⟨[4,12],⟨[.int .i64, .int .i64],[]⟩,[],[],[],4,[12],⟨[.int .i64],[]⟩,[]⟩)]) (joins:=[(14,⟨[0,4,6],⟨[.str, .int .i64, .int .i64],[]⟩,[3,5],[],[],0,[],⟨[],[]⟩,[]⟩),(15,⟨[0,4],⟨[.str, .int .i64],[]⟩,[3],[],[],0,[],⟨[],[]⟩,[]⟩),(20,⟨[0,4],⟨[.str, .int .i64],[]⟩,[],[],[],0,[],⟨[],[]⟩,[]⟩),(31,⟨[12],⟨[.int .i64],[]⟩,[],[],[],0,[],⟨[],[]⟩,[]⟩)])
theorem zcF:zB Tryz.prog (zcT Zj):=
 okC Tryz.f65 (memC zcE (memC P9 (memC rO (memC Qy (memC zD zT))))) (p:=1) (joins:=[(9,⟨[],⟨[],[(0, .row 61),(1, .row 34),(2, .row 34)]⟩,[2,5],[],[0,1,2],0,[],⟨[],[]⟩,[]⟩)]) (exS:=⟨[.optr 1],[(0, .row 61),(1, .row 34)]⟩)
theorem S9:zB Tryz.prog (O8 Zx):=
 okC Tryz.f123 (memC zD (memC ZG (memC zbU zT))) (p:=1) (cuts:=[(1,⟨[],⟨[],[(0, .row 61),(1, .row 34)]⟩,[0,2],[],[0,1],0,[],⟨[],[]⟩,[]⟩)]) (exS:=⟨[.optr 1],[(0, .row 61),(1, .row 34)]⟩)
theorem R9:zB Tryz.prog (N8 qb):=
 okC Tryz.f97 (memC Qn (memC zD (memC QZ (memC S9 (memC VA (memC ZG (memC qo zT))))))) (fz:=[(18,[3])]) (p:=1) (cuts:=[(3,⟨[3],⟨[.own 1837],[(0, .row 61),(1, .row 34),(1837, .sl 5)]⟩,[0,2],[],[0,1],0,[],⟨[],[]⟩,[]⟩)]) (joins:=[(10,⟨[3,4],⟨[.own 1837, .int .i64],[(0, .row 61),(1, .row 34),(1837, .sl 5)]⟩,[],[],[0,1,1837],0,[],⟨[],[]⟩,[]⟩)]) (exS:=⟨[.optr 1],[(0, .row 61),(1, .row 34)]⟩)
theorem zdA:zB Tryz.prog (w9 Zi):=
 okC Tryz.f66 (memC Qy (memC zD (memC KO (memC Qn (memC R9 zT))))) (p:=1) (joins:=[(11,⟨[],⟨[],[(0, .row 61),(1, .row 34)]⟩,[2,3],[],[0,1],0,[],⟨[],[]⟩,[]⟩)]) (exS:=⟨[.optr 1],[(0, .row 61),(1, .row 34)]⟩)
theorem zd7:zB Tryz.prog (J9 ZJ):=
 okC Tryz.f37 (memC zD (memC QZ (memC Qn (memC X9 (memC fO (memC ZG (memC rO (memC Qy (memC Y9 (memC zcF (memC Z4 (memC zdA (memC QQ zT))))))))))))) (p:=1) (exS:=⟨[.optr 1],[(0, .row 61),(1, .row 34)]⟩)
theorem X8:zB Tryz.prog (p8 Qd):=
 okC Tryz.f19 zT (fz:=[(1,[2])]) (p:=2)
theorem V5:zB Tryz.prog (l6 Sq):=
 okC Tryz.f18 (memC aW (memC zcd (memC zd7 (memC X8 zT)))) (p:=1) (cuts:=[(7,⟨[7],⟨[.int .i64],[(0, .cells 22 [.own 1838]),(1838, .sl 34),(1, .row 61)]⟩,[0,1,6],[],[0,1],0,[],⟨[],[(0, .cells 22 [.own 1838]),(1838, .sl 34),(1, .row 61)]⟩,[0,1,1838]⟩)])
theorem iO:zB Tryz.prog (A7 qU):=
 okC Tryz.f8 (memC V5 zT)
theorem zd3:zB Tryz.prog (M9 ZH):=
 okC Tryz.f17 zT (cuts:=[(4,⟨[13],⟨[.int .i64],[]⟩,[0,1,12],[],[],0,[],⟨[],[]⟩,[]⟩)])
theorem sN:zB Tryz.prog (wZ QG):=
 okC Tryz.f7 (memC V3 (memC nN (memC L6 (memC iO (memC zd3 zT))))) (fz:=[(24,[5])]) (cuts:=[(7,⟨[5,6,7],⟨[.own 1940, .own 1941, .int .i64],[(1940, .sl 5),(1941, .sl 44)]⟩,[0],[],[],0,[5],⟨[.own 1940],[(1940, .sl 5)]⟩,[1940]⟩),(11,⟨[9,36],⟨[.own 1521, .int .i64],[(1521, .sl 5)]⟩,[5,6,7,8,34,35],[1940,1941],[],2,[9],⟨[.own 1521],[(1521, .sl 5)]⟩,[1521]⟩)]) (joins:=[(17,⟨[5,6,7,9],⟨[.own 1940, .own 1941, .int .i64, .own 2043],[(1940, .sl 5),(1941, .sl 44),(2043, .sl 5)]⟩,[8],[],[1940,1941],0,[],⟨[],[]⟩,[]⟩),(21,⟨[5,6,7],⟨[.own 1940, .own 1941, .int .i64],[(1940, .sl 5),(1941, .sl 44),(2044, .row 44)]⟩,[9,12],[2043],[1940,1941,2044],0,[],⟨[],[]⟩,[]⟩),(24,⟨[5,6,7],⟨[.own 2148, .own 1941, .int .i64],[(1941, .sl 44),(2148, .sl 5)]⟩,[],[2044],[1941],0,[],⟨[],[]⟩,[]⟩)])
theorem l7:zB Tryz.prog (O5 zW):=
 okC Tryz.f12 (memC sN zT)
theorem J6:zB Tryz.prog (J4 Gn):=
 okC Tryz.f6 (memC I6 (memC l7 zT)) (fz:=[(1,[1,5,10,16,22,27])])
theorem O3:zB Tryz.prog (nZ tu):=
 okC Tryz.f9 zT (cuts:=[(4,⟨[5],⟨[.int .i64],[]⟩,[0,1],[],[],0,[],⟨[],[]⟩,[]⟩)])
theorem J8:zB Tryz.prog (oO XA):=
 okC Tryz.f3 (memC D6 (memC G6 (memC J6 (memC sN (memC iO (memC O3 zT))))))
end Go.Lv.VT
end
