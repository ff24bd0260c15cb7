/- Contracts. -/
import Derived.Test.YtbamonbfpghnhaaGreatDoorTx
import Derived.Test.YtbamonbfpghnhaaGreatDoorIp
import Derived.Test.YtbamonbfpghnhaaGreatDoorLf
import Derived.Test.YtbamonbfpghnhaaGreatDoorPa
noncomputable section
set_option linter.unusedSimpArgs false
set_option linter.unusedVariables false
namespace Go.Lv.VT
set_option maxRecDepth 100000
open Go.Proofs
theorem okC{con:Con I}{A:Env0 I}{exS:StSh}(f:Go.Func)(hS: ∀c∈A.S,zo Tryz.prog c)(hf:Tryz.prog.funcs[con.f]? =some f)(h:chk con A f=true)(he: ∀x,evF2 A T FK f.ntmps (rsl f) (body f) con exS x=con.F x):zo Tryz.prog con:=
 okC0 mixed ipOK tok rfl rfl hS hf h he
def bv(F:List zb×Int->Option Int):Con I:=⟨9,⟨[.sl 51, .int .i64],[]⟩,[],⟨[.int .i64],[]⟩,0,F⟩
def lQ(F:Int->Option Int):Con I:=⟨18,⟨[.int .u8],[]⟩,[],⟨[.int .u8],[]⟩,0,F⟩
def kv(F:List zb->Option Int):Con I:=⟨10,⟨[.sl 51],[]⟩,[],⟨[.int .i64],[]⟩,0,F⟩
def OQ(F:List zI->Option Bool):Con I:=⟨4,⟨[.sl 35],[]⟩,[],⟨[.bool],[]⟩,0,F⟩
def Qv(F:Str×Str->Option Bool):Con I:=⟨62,⟨[.str, .str],[]⟩,[],⟨[.bool],[]⟩,0,F⟩
def Zg(F:Str×Str->Option Bool):Con I:=⟨40,⟨[.str, .str],[]⟩,[],⟨[.bool],[]⟩,0,F⟩
def iR(F:za->Option za):Con I:=⟨50,⟨[.optr 0],[(0, .row 91)]⟩,[],⟨[],[(0, .row 91)]⟩,0,F⟩
def zC(F:Int×za->Option Int):Con I:=⟨75,⟨[.optr 0, .int .i64],[(0, .row 91)]⟩,[0],⟨[.int .i64],[]⟩,0,F⟩
def Ur(F:Int->Option Bool):Con I:=⟨76,⟨[.int .i64],[]⟩,[],⟨[.bool],[]⟩,0,F⟩
def qZ(F:za->Option za):Con I:=⟨77,⟨[.optr 0, .clo 76 []],[(0, .row 91)]⟩,[],⟨[],[(0, .row 91)]⟩,0,F⟩
def QY(F:Int->Option (List UInt8)):Con I:=⟨142,⟨[.nilv, .int .i32],[]⟩,[],⟨[.own 0],[(0, .sl 5)]⟩,1,F⟩
def FR(F:Int->Option (List UInt8)):Con I:=⟨117,⟨[.nilv, .int .i32],[]⟩,[],⟨[.own 0],[(0, .sl 5)]⟩,1,F⟩
def Aw(F:Int×Int×Int->Option Bool):Con I:=⟨119,⟨[.int .i64, .int .i64, .int .i64],[]⟩,[],⟨[.bool],[]⟩,0,F⟩
def Vr(F:Int->Option Bool):Con I:=⟨102,⟨[.int .i64],[]⟩,[],⟨[.bool],[]⟩,0,F⟩
def PG(F:Int->Option Int):Con I:=⟨118,⟨[.int .i64],[]⟩,[],⟨[.int .i64],[]⟩,0,F⟩
def aR(F:za->Option (za×List UInt8)):Con I:=⟨100,⟨[.optr 0, .nilv],[(0, .row 91)]⟩,[],⟨[.own 1],[(0, .row 91),(1, .sl 5)]⟩,1,F⟩
def QZ(F:Int×List UInt8->Option (List UInt8)):Con I:=⟨142,⟨[.own 0, .int .i32],[(0, .sl 5)]⟩,[],⟨[.own 1],[(1, .sl 5)]⟩,1,F⟩
def ER(F:Int×List UInt8->Option (List UInt8)):Con I:=⟨117,⟨[.own 0, .int .i32],[(0, .sl 5)]⟩,[],⟨[.own 1],[(1, .sl 5)]⟩,1,F⟩
def qc(F:za×List UInt8->Option (za×List UInt8)):Con I:=⟨100,⟨[.optr 0, .own 1],[(0, .row 91),(1, .sl 5)]⟩,[],⟨[.own 2],[(0, .row 91),(2, .sl 5)]⟩,1,F⟩
def NR(F:za->Option (ze×za)):Con I:=⟨78,⟨[.optr 0],[(0, .row 91)]⟩,[],⟨[.val 49],[(0, .row 91)]⟩,0,F⟩
def vG(F:Int->Option Bool):Con I:=⟨101,⟨[.int .i64],[]⟩,[],⟨[.bool],[]⟩,0,F⟩
def sG(F:Int->Option Bool):Con I:=⟨79,⟨[.int .i64],[]⟩,[],⟨[.bool],[]⟩,0,F⟩
def ZK(F:Int×za->Option Bool):Con I:=⟨80,⟨[.optr 0, .int .i64],[(0, .row 91)]⟩,[0],⟨[.bool],[]⟩,0,F⟩
def NH(F:Int×za->Option Bool):Con I:=⟨81,⟨[.optr 0, .int .i64],[(0, .row 91)]⟩,[0],⟨[.bool],[]⟩,0,F⟩
def Qj(F:za->Option (Str×za)):Con I:=⟨82,⟨[.optr 0],[(0, .row 91)]⟩,[],⟨[.str],[(0, .row 91)]⟩,0,F⟩
def PR(F:za->Option Bool):Con I:=⟨83,⟨[.optr 0],[(0, .row 91)]⟩,[0],⟨[.bool],[]⟩,0,F⟩
def nR(F:za->Option za):Con I:=⟨77,⟨[.optr 0, .clo 102 []],[(0, .row 91)]⟩,[],⟨[],[(0, .row 91)]⟩,0,F⟩
def rR(F:za->Option (Bool×za)):Con I:=⟨103,⟨[.optr 0],[(0, .row 91)]⟩,[],⟨[.bool],[(0, .row 91)]⟩,0,F⟩
def GR(F:Str->Option Int):Con I:=⟨104,⟨[.str],[]⟩,[],⟨[.int .i64],[]⟩,0,F⟩
def pR(F:za->Option (ze×za)):Con I:=⟨84,⟨[.optr 0],[(0, .row 91)]⟩,[],⟨[.val 49],[(0, .row 91)]⟩,0,F⟩
def aA(F:Str->Option Str):Con I:=⟨55,⟨[.str],[]⟩,[],⟨[.str],[]⟩,0,F⟩
def AB(F:Str×Str->Option Bool):Con I:=⟨56,⟨[.str, .str],[]⟩,[],⟨[.bool],[]⟩,0,F⟩
def JR(F:za->Option (ze×za)):Con I:=⟨123,⟨[.optr 0],[(0, .row 91)]⟩,[],⟨[.val 49],[(0, .row 91)]⟩,0,F⟩
def IR(F:za->Option (ze×za)):Con I:=⟨105,⟨[.optr 0],[(0, .row 91)]⟩,[],⟨[.val 49],[(0, .row 91)]⟩,0,F⟩
def UR(F:za->Option (ze×za)):Con I:=⟨85,⟨[.optr 0],[(0, .row 91)]⟩,[],⟨[.val 49],[(0, .row 91)]⟩,0,F⟩
def Z6(F:Str×Int->Option Int):Con I:=⟨41,⟨[.str, .int .u8],[]⟩,[],⟨[.int .i64],[]⟩,0,F⟩
def VR(F:za->Option (ze×za)):Con I:=⟨51,⟨[.optr 0],[(0, .row 91)]⟩,[],⟨[.val 49],[(0, .row 91)]⟩,0,F⟩
def MR(F:(ze×Int×Int)×List ze->Option (List ze)):Con I:=⟨26,⟨[.val 49, .int .i64, .int .i64, .optr 0],[(0, .cells 41 [.own 1]),(1, .sl 49)]⟩,[],⟨[],[(0, .cells 41 [.own 2]),(2, .sl 49)]⟩,1,F⟩
def kQ(F:Str->Option (Int×List ze)):Con I:=⟨25,⟨[.str, .clo 26 [0]],[(0, .cells 41 [.nilv])]⟩,[],⟨[.int .i64],[(0, .cells 41 [.own 1]),(1, .sl 49)]⟩,1,F⟩
def uG(F:Str->Option (List ze×Int)):Con I:=⟨14,⟨[.str],[]⟩,[],⟨[.sl 49, .int .i64],[]⟩,0,F⟩
def YA(F:Int->Option Int):Con I:=⟨28,⟨[.int .u8],[]⟩,[],⟨[.int .u8],[]⟩,0,F⟩
def Uv(F:List zb×Int->Option zw):Con I:=⟨67,⟨[.sl 51, .int .u8],[]⟩,[],⟨[.val 102],[]⟩,0,F⟩
def vv(F:List zb->Option Int):Con I:=⟨44,⟨[.sl 51],[]⟩,[],⟨[.int .i64],[]⟩,0,F⟩
def YR(F:List zb->Option (List zb)):Con I:=⟨86,⟨[.sl 51],[]⟩,[],⟨[.own 0],[(0, .sl 51)]⟩,1,F⟩
def Nr(F:List zb->Option (List zb)):Con I:=⟨52,⟨[.sl 51],[]⟩,[],⟨[.sl 51],[]⟩,0,F⟩
def nP(F:List zb×Int->Option (List (List zb)×Int)):Con I:=⟨29,⟨[.sl 51, .int .u8],[]⟩,[],⟨[.sl 33, .int .i64],[]⟩,0,F⟩
def ol(F:zb×Int->Option Bool):Con I:=⟨38,⟨[.val 51, .int .u8],[]⟩,[],⟨[.bool],[]⟩,0,F⟩
def PP(F:List zb->Option (List zb)):Con I:=⟨54,⟨[.sl 51],[]⟩,[],⟨[.sl 51],[]⟩,0,F⟩
def sP(F:List zb->Option (List zb)):Con I:=⟨53,⟨[.sl 51],[]⟩,[],⟨[.sl 51],[]⟩,0,F⟩
def RG(F:zb->Option Bool):Con I:=⟨39,⟨[.val 51],[]⟩,[],⟨[.bool],[]⟩,0,F⟩
def RQ(F:Int×List zb->Option Bool):Con I:=⟨87,⟨[.int .i64, .optr 0],[(0, .row 33)]⟩,[0],⟨[.bool],[]⟩,0,F⟩
def JP(F:List zb->Option (List zb×Int)):Con I:=⟨57,⟨[.sl 51],[]⟩,[],⟨[.sl 51, .int .i64],[]⟩,0,F⟩
def Dw(F:List zb×List ze->Option (List ze)):Con I:=⟨46,⟨[.own 0, .sl 51],[(0, .sl 49)]⟩,[],⟨[.own 1],[(1, .sl 49)]⟩,1,F⟩
def PQ(F:List zb->Option (List ze)):Con I:=⟨46,⟨[.nilv, .sl 51],[]⟩,[],⟨[.own 0],[(0, .sl 49)]⟩,1,F⟩
def LP(F:List zb->Option (List ze×Int)):Con I:=⟨32,⟨[.sl 51],[]⟩,[],⟨[.sl 49, .int .i64],[]⟩,0,F⟩
def uP(F:Str->Option Bool):Con I:=⟨33,⟨[.str],[]⟩,[],⟨[.bool],[]⟩,0,F⟩
def jR(F:Str×Str->Option Str):Con I:=⟨124,⟨[.str, .str],[]⟩,[],⟨[.str],[]⟩,0,F⟩
def WR(F:Str×Str->Option Str):Con I:=⟨106,⟨[.str, .str],[]⟩,[],⟨[.str],[]⟩,0,F⟩
def jr(F:Int->Option Bool):Con I:=⟨65,⟨[.int .u8],[]⟩,[],⟨[.bool],[]⟩,0,F⟩
def EH(F:Str->Option Bool):Con I:=⟨88,⟨[.str],[]⟩,[],⟨[.bool],[]⟩,0,F⟩
def wG(F:Int->Option Bool):Con I:=⟨92,⟨[.int .u8],[]⟩,[],⟨[.bool],[]⟩,0,F⟩
def bA(F:Int->Option Bool):Con I:=⟨64,⟨[.int .u8],[]⟩,[],⟨[.bool],[]⟩,0,F⟩
def KR(F:Str×Str->Option Bool):Con I:=⟨89,⟨[.str, .str],[]⟩,[],⟨[.bool],[]⟩,0,F⟩
def NP(F:ze->Option Bool):Con I:=⟨58,⟨[.val 49],[]⟩,[],⟨[.bool],[]⟩,0,F⟩
def nQ(F:(Int×Int)×List ze->Option Bool):Con I:=⟨90,⟨[.int .i64, .int .u8, .optr 0],[(0, .row 41)]⟩,[0],⟨[.bool],[]⟩,0,F⟩
def eG(F:List ze->Option Int):Con I:=⟨59,⟨[.sl 49],[]⟩,[],⟨[.int .i64],[]⟩,0,F⟩
def gG(F:List ze->Option Int):Con I:=⟨34,⟨[.sl 49],[]⟩,[],⟨[.int .i64],[]⟩,0,F⟩
def wQ(F:zb->Option Bool):Con I:=⟨60,⟨[.val 51],[]⟩,[],⟨[.bool],[]⟩,0,F⟩
def kR(F:List zb->Option Int):Con I:=⟨61,⟨[.sl 51, .clo 60 []],[]⟩,[],⟨[.int .i64],[]⟩,0,F⟩
def QX(F:List zb->Option Bool):Con I:=⟨36,⟨[.sl 51, .clo 60 []],[]⟩,[],⟨[.bool],[]⟩,0,F⟩
def qC(F:List zb->Option Bool):Con I:=⟨35,⟨[.sl 51],[]⟩,[],⟨[.bool],[]⟩,0,F⟩
def oQ(F:zb->Option Bool):Con I:=⟨37,⟨[.val 51],[]⟩,[],⟨[.bool],[]⟩,0,F⟩
def bR(F:List zb->Option Int):Con I:=⟨61,⟨[.sl 51, .clo 37 []],[]⟩,[],⟨[.int .i64],[]⟩,0,F⟩
def QC(F:List zb->Option Bool):Con I:=⟨36,⟨[.sl 51, .clo 37 []],[]⟩,[],⟨[.bool],[]⟩,0,F⟩
def iG(F:zI->Option Int):Con I:=⟨19,⟨[.val 35],[]⟩,[],⟨[.int .i64],[]⟩,0,F⟩
def bO(F:List zb->Option (zI×Bool)):Con I:=⟨30,⟨[.sl 51],[]⟩,[],⟨[.val 35, .bool],[]⟩,0,F⟩
def wN(F:List zb->Option (List zI×Int)):Con I:=⟨16,⟨[.sl 51],[]⟩,[],⟨[.sl 35, .int .i64],[]⟩,0,F⟩
def TG(F:Str->Option (List zI×Int)):Con I:=⟨7,⟨[.str],[]⟩,[],⟨[.sl 35, .int .i64],[]⟩,0,F⟩
def fG(F:Str->Option Int):Con I:=⟨43,⟨[.str],[]⟩,[],⟨[.int .i64],[]⟩,0,F⟩
def BB(F:Int×List UInt8->Option (List UInt8)):Con I:=⟨66,⟨[.own 0, .int .u8],[(0, .sl 5)]⟩,[],⟨[.own 1],[(1, .sl 5)]⟩,1,F⟩
def WQ(F:Str×Int->Option (List UInt8)):Con I:=⟨42,⟨[.nilv, .str, .int .i64],[]⟩,[],⟨[.own 0],[(0, .sl 5)]⟩,1,F⟩
def OP(F:Str->Option (Str×Int)):Con I:=⟨20,⟨[.str],[]⟩,[],⟨[.str, .int .i64],[]⟩,0,F⟩
def VQ(F:(Str×Int)×List UInt8->Option (List UInt8)):Con I:=⟨42,⟨[.own 0, .str, .int .i64],[(0, .sl 5)]⟩,[],⟨[.own 1],[(1, .sl 5)]⟩,1,F⟩
def oP(F:Unit->Option QJ):Con I:=⟨95,⟨[],[]⟩,[],⟨[.val 122],[]⟩,0,F⟩
def AR(F:(Int×Bool)×List UInt8->Option (List UInt8)):Con I:=⟨94,⟨[.own 0, .int .i64, .bool],[(0, .sl 5)]⟩,[],⟨[.own 1],[(1, .sl 5)]⟩,1,F⟩
def UQ(F:ze×List UInt8->Option (List UInt8)):Con I:=⟨68,⟨[.own 0, .val 49],[(0, .sl 5)]⟩,[],⟨[.own 1],[(1, .sl 5)]⟩,1,F⟩
def XR(F:List ze×List ze->Option Bool):Con I:=⟨69,⟨[.sl 49, .sl 49],[]⟩,[],⟨[.bool],[]⟩,0,F⟩
def rP(F:List ze->Option (Str×Int)):Con I:=⟨45,⟨[.sl 49],[]⟩,[],⟨[.str, .int .i64],[]⟩,0,F⟩
def KP(F:List zb->Option (Str×Int)):Con I:=⟨21,⟨[.sl 51],[]⟩,[],⟨[.str, .int .i64],[]⟩,0,F⟩
def RP(F:zI->Option (Str×Int)):Con I:=⟨12,⟨[.val 35],[]⟩,[],⟨[.str, .int .i64],[]⟩,0,F⟩
def UG(F:List zI->Option (Str×Int)):Con I:=⟨6,⟨[.sl 35],[]⟩,[],⟨[.str, .int .i64],[]⟩,0,F⟩
def SQ(F:Str×Str×Int->Option Bool):Con I:=⟨11,⟨[.str, .str, .int .i64],[]⟩,[],⟨[.bool],[]⟩,0,F⟩
def TQ(F:Unit->Option Bool):Con I:=⟨5,⟨[],[]⟩,[],⟨[.bool],[]⟩,0,F⟩
def jv(F:List zb×List zb->Option Bool):Con I:=⟨31,⟨[.sl 51, .sl 51],[]⟩,[],⟨[.bool],[]⟩,0,F⟩
def NQ(F:zI×zI->Option Bool):Con I:=⟨17,⟨[.val 35, .val 35],[]⟩,[],⟨[.bool],[]⟩,0,F⟩
def mP(F:List zI×List zI->Option Bool):Con I:=⟨8,⟨[.sl 35, .sl 35],[]⟩,[],⟨[.bool],[]⟩,0,F⟩
def vQ(F:List zI×List zI×Int->Option Bool):Con I:=⟨3,⟨[.sl 35, .sl 35, .int .i64],[]⟩,[],⟨[.bool],[]⟩,0,F⟩
def mQ(F:List zb->Option (List ze)):Con I:=⟨46,⟨[.nilv, .sl 51],[]⟩,[],⟨[.sl 49],[]⟩,0,F⟩
def JM(F:Str->Option (Str×Int)):Con I:=⟨49,⟨[.str],[]⟩,[],⟨[.str, .int .i64],[]⟩,0,F⟩
theorem bY:zo Tryz.prog (JM ji):=JY
def uN(F:Str×Int->Option Int):Con I:=⟨63,⟨[.str, .int .u8],[]⟩,[],⟨[.int .i64],[]⟩,0,F⟩
theorem kZ:zo Tryz.prog (uN Ru):=yZ
def wE(F:Str×Str->Option Int):Con I:=⟨74,⟨[.str, .str],[]⟩,[],⟨[.int .i64],[]⟩,0,F⟩
theorem EN:zo Tryz.prog (wE di):=IY
def FM(F:Str×Str->Option Str):Con I:=⟨120,⟨[.str, .str],[]⟩,[],⟨[.str],[]⟩,0,F⟩
theorem lX:zo Tryz.prog (FM lh):=GY
def EM(F:Str×Str->Option Str):Con I:=⟨109,⟨[.str, .str],[]⟩,[],⟨[.str],[]⟩,0,F⟩
theorem kX:zo Tryz.prog (EM Jl):=FY
def MP(F:Str×Str->Option Int):Con I:=⟨121,⟨[.str, .str],[]⟩,[],⟨[.int .i64],[]⟩,0,F⟩
theorem D6:zo Tryz.prog (MP QD):=A7
def oH(F:Str×Str->Option (Str×Str×Bool)):Con I:=⟨122,⟨[.str, .str],[]⟩,[],⟨[.str, .str, .bool],[]⟩,0,F⟩
theorem zAo:zo Tryz.prog (oH cutF):=yT
def vN(F:Int×Int->Option Str):Con I:=⟨110,⟨[.int .i64, .int .i64],[]⟩,[],⟨[.str],[]⟩,0,F⟩
theorem lZ:zo Tryz.prog (vN Jn):=M0
def cO(F:(Int×Int)×List UInt8->Option (List UInt8)):Con I:=⟨93,⟨[.own 0, .int .u64, .int .i64],[(0, .sl 5)]⟩,[],⟨[.own 1],[(1, .sl 5)]⟩,1,F⟩
theorem Y2:zo Tryz.prog (cO Tn):=J4
def dO(F:(Int×Int)×List UInt8->Option (List UInt8)):Con I:=⟨108,⟨[.own 0, .int .i64, .int .i64],[(0, .sl 5)]⟩,[],⟨[.own 1],[(1, .sl 5)]⟩,1,F⟩
theorem J3:zo Tryz.prog (dO Un):=K4
def IM(F:List ze->Option (List zb×Int)):Con I:=⟨15,⟨[.sl 49],[]⟩,[],⟨[.sl 51, .int .i64],[]⟩,0,F⟩
theorem aY:zo Tryz.prog (IM parseF):=HY
def xJ(F:List Str×Str->Option Str):Con I:=⟨13,⟨[.sl 9, .str],[]⟩,[],⟨[.str],[]⟩,0,F⟩
theorem pV:zo Tryz.prog (xJ ak):=aV
theorem U6(qJ:List zb×Int->Option Int)(hs:zo Tryz.prog (bv qJ)):zo Tryz.prog (bv (kr qJ)):=
 okC (A:=⟨[bv qJ],[],[],0,[(3,⟨[5,6],⟨[.int .i64, .int .i64],[]⟩,[0,1,4],[],[],0,[5],⟨[.int .i64],[]⟩,[]⟩)],[],[]⟩) (exS:=⟨[.int .i64],[]⟩) Tryz.f9 (memC hs zX) (by kernel_rfl) (by kernel_rfl) fun x=>by kernel_rfl
theorem u7:zo Tryz.prog (bv qJ):=
 zo.recE (I:=I) (P:=Tryz.prog) (f:=9) (inS:=⟨[.sl 51, .int .i64],[]⟩) (cst:=[]) (outS:=⟨[.int .i64],[]⟩) (k:=0) (kr) (by kernel_rfl) (fun S h=>U6 S h)
theorem H8:zo Tryz.prog (lQ av):=
 okC (A:=⟨[],[],[],0,[],[(6,⟨[6],⟨[.bool],[]⟩,[3],[],[],0,[],⟨[],[]⟩,[]⟩)],[]⟩) (exS:=⟨[.int .u8],[]⟩) Tryz.f18 zX (by kernel_rfl) (by kernel_rfl) fun x=>by kernel_rfl
theorem X6(QQ:List zb->Option Int)(hs:zo Tryz.prog (kv QQ)):zo Tryz.prog (kv (fA QQ)):=
 okC (A:=⟨[lQ av,kv QQ],[],[],0,[(3,⟨[3,4],⟨[.int .i64, .int .i64],[]⟩,[0,2],[],[],0,[3],⟨[.int .i64],[]⟩,[]⟩)],[(4,⟨[3,4],⟨[.int .i64, .int .i64],[]⟩,[],[],[],0,[],⟨[],[]⟩,[]⟩)],[]⟩) (exS:=⟨[.int .i64],[]⟩) Tryz.f10 (memC H8 (memC hs zX)) (by kernel_rfl) (by kernel_rfl) fun x=>by kernel_rfl
theorem C8:zo Tryz.prog (kv QQ):=
 zo.recE (I:=I) (P:=Tryz.prog) (f:=10) (inS:=⟨[.sl 51],[]⟩) (cst:=[]) (outS:=⟨[.int .i64],[]⟩) (k:=0) (fA) (by kernel_rfl) (fun S h=>X6 S h)
theorem D9:zo Tryz.prog (OQ Jr):=
 okC (A:=⟨[bv qJ,kv QQ],[],[],0,[(5,⟨[3,4],⟨[.int .i64, .int .i64],[]⟩,[0],[],[],0,[],⟨[],[]⟩,[]⟩)],[],[]⟩) (exS:=⟨[.bool],[]⟩) Tryz.f4 (memC u7 (memC C8 zX)) (by kernel_rfl) (by kernel_rfl) fun x=>by kernel_rfl
theorem dR:zo Tryz.prog (Qv stringslite_HasPrefix):=
 okC (A:=⟨[],[],[],0,[],[],[]⟩) (exS:=⟨[.bool],[]⟩) Tryz.f62 zX (by kernel_rfl) (by kernel_rfl) fun x=>by kernel_rfl
theorem Zn:zo Tryz.prog (Zg strings_HasPrefix):=
 okC (A:=⟨[Qv stringslite_HasPrefix],[],[],0,[],[],[]⟩) (exS:=⟨[.bool],[]⟩) Tryz.f40 (memC dR zX) (by kernel_rfl) (by kernel_rfl) fun x=>by kernel_rfl
theorem zdo:zo Tryz.prog (iR Zb):=
 okC (A:=⟨[Zg strings_HasPrefix,wE di],[],[],1,[(0,⟨[],⟨[],[(0, .row 91)]⟩,[0],[],[0],0,[],⟨[],[(0, .row 91)]⟩,[0]⟩)],[],[]⟩) (exS:=⟨[],[(0, .row 91)]⟩) Tryz.f50 (memC Zn (memC EN zX)) (by kernel_rfl) (by kernel_rfl) fun x=>by kernel_rfl
theorem zD:zo Tryz.prog (zC zf):=
 okC (A:=⟨[],[],[],1,[],[],[]⟩) (exS:=⟨[.int .i64],[]⟩) Tryz.f75 zX (by kernel_rfl) (by kernel_rfl) fun x=>by kernel_rfl
theorem Bw:zo Tryz.prog (Ur Zx):=
 okC (A:=⟨[],[],[],0,[],[],[]⟩) (exS:=⟨[.bool],[]⟩) Tryz.f76 zX (by kernel_rfl) (by kernel_rfl) fun x=>by kernel_rfl
theorem QT:zo Tryz.prog (qZ zT):=
 okC (A:=⟨[zC zf,Ur Zx],[],[],1,[(0,⟨[],⟨[],[(0, .row 91)]⟩,[0,1],[],[0],0,[],⟨[],[(0, .row 91)]⟩,[0]⟩)],[],[]⟩) (exS:=⟨[],[(0, .row 91)]⟩) Tryz.f77 (memC zD (memC Bw zX)) (by kernel_rfl) (by kernel_rfl) fun x=>by kernel_rfl
theorem zci:zo Tryz.prog (QY qg):=
 okC (A:=⟨[],[(2,[1]),(4,[9]),(7,[14]),(9,[19])],[],0,[],[(7,⟨[25],⟨[.bool],[]⟩,[0,1,5],[],[],0,[],⟨[],[]⟩,[]⟩)],[]⟩) (exS:=⟨[.own 0],[(0, .sl 5)]⟩) Tryz.f142 zX (by kernel_rfl) (by kernel_rfl) fun x=>by kernel_rfl
theorem r9:zo Tryz.prog (FR ZA):=
 okC (A:=⟨[QY qg],[(2,[3])],[],0,[],[],[]⟩) (exS:=⟨[.own 0],[(0, .sl 5)]⟩) Tryz.f117 (memC zci zX) (by kernel_rfl) (by kernel_rfl) fun x=>by kernel_rfl
theorem rA:zo Tryz.prog (Aw ZT):=
 okC (A:=⟨[],[],[],0,[],[],[]⟩) (exS:=⟨[.bool],[]⟩) Tryz.f119 zX (by kernel_rfl) (by kernel_rfl) fun x=>by kernel_rfl
theorem Cw:zo Tryz.prog (Vr Zh):=
 okC (A:=⟨[Aw ZT],[],[],0,[],[],[]⟩) (exS:=⟨[.bool],[]⟩) Tryz.f102 (memC rA zX) (by kernel_rfl) (by kernel_rfl) fun x=>by kernel_rfl
theorem eP:zo Tryz.prog (PG QI):=
 okC (A:=⟨[Vr Zh,Aw ZT],[],[],0,[],[],[]⟩) (exS:=⟨[.int .i64],[]⟩) Tryz.f118 (memC Cw (memC rA zX)) (by kernel_rfl) (by kernel_rfl) fun x=>by kernel_rfl
theorem zcX:zo Tryz.prog (aR Zi):=
 okC (A:=⟨[zC zf,FR ZA,PG QI,Ur Zx],[(7,[3])],[],1,[(10,⟨[6,36],⟨[.int .i64, .int .i64],[(0, .row 91)]⟩,[0,1,4],[],[0],0,[6],⟨[.int .i64],[(0, .row 91)]⟩,[0]⟩)],[(17,⟨[6],⟨[.int .i64],[(0, .row 91)]⟩,[1],[],[0],0,[],⟨[],[]⟩,[]⟩),(19,⟨[6],⟨[.int .i64],[]⟩,[],[0],[],0,[],⟨[],[]⟩,[]⟩)],[]⟩) (exS:=⟨[.own 1],[(0, .row 91),(1, .sl 5)]⟩) Tryz.f100 (memC zD (memC r9 (memC eP (memC Bw zX)))) (by kernel_rfl) (by kernel_rfl) fun x=>by kernel_rfl
theorem zcj:zo Tryz.prog (QZ qh):=
 okC (A:=⟨[],[(2,[1]),(4,[9]),(7,[14]),(9,[19])],[],1,[],[(7,⟨[25],⟨[.bool],[(0, .sl 5)]⟩,[0,1,5],[],[0],0,[],⟨[],[]⟩,[]⟩)],[]⟩) (exS:=⟨[.own 1],[(1, .sl 5)]⟩) Tryz.f142 zX (by kernel_rfl) (by kernel_rfl) fun x=>by kernel_rfl
theorem p9:zo Tryz.prog (ER ZB):=
 okC (A:=⟨[QZ qh],[(2,[3])],[],1,[],[],[]⟩) (exS:=⟨[.own 1],[(1, .sl 5)]⟩) Tryz.f117 (memC zcj zX) (by kernel_rfl) (by kernel_rfl) fun x=>by kernel_rfl
theorem qR:zo Tryz.prog (qc zO):=
 okC (A:=⟨[zC zf,ER ZB,PG QI,Ur Zx],[(7,[3])],[],2,[(10,⟨[6,36],⟨[.int .i64, .int .i64],[(0, .row 91)]⟩,[0,1,4],[1],[0],0,[6],⟨[.int .i64],[(0, .row 91)]⟩,[0]⟩)],[(17,⟨[6],⟨[.int .i64],[(0, .row 91),(1, .sl 5)]⟩,[1],[],[0,1],0,[],⟨[],[]⟩,[]⟩),(19,⟨[6],⟨[.int .i64],[(1, .sl 5)]⟩,[],[0],[1],0,[],⟨[],[]⟩,[]⟩)],[]⟩) (exS:=⟨[.own 2],[(0, .row 91),(2, .sl 5)]⟩) Tryz.f100 (memC zD (memC p9 (memC eP (memC Bw zX)))) (by kernel_rfl) (by kernel_rfl) fun x=>by kernel_rfl
theorem zei:zo Tryz.prog (NR ZH):=
 okC (A:=⟨[zC zf,qc zO],[(5,[3])],[],1,[(4,⟨[4],⟨[.own 1001],[(0, .row 91),(1, .row 49),(1001, .sl 5)]⟩,[0,2,3],[],[0,1],0,[4],⟨[.own 1001],[(0, .row 91),(1, .row 49),(1001, .sl 5)]⟩,[0,1,1001]⟩)],[],[]⟩) (exS:=⟨[.optr 1],[(0, .row 91),(1, .row 49)]⟩) Tryz.f78 (memC zD (memC qR zX)) (by kernel_rfl) (by kernel_rfl) fun x=>by kernel_rfl
theorem rQ:zo Tryz.prog (vG Ro):=
 okC (A:=⟨[Aw ZT],[],[],0,[],[],[]⟩) (exS:=⟨[.bool],[]⟩) Tryz.f101 (memC rA zX) (by kernel_rfl) (by kernel_rfl) fun x=>by kernel_rfl
theorem dQ:zo Tryz.prog (sG Qt):=
 okC (A:=⟨[vG Ro,Vr Zh],[],[],0,[],[],[]⟩) (exS:=⟨[.bool],[]⟩) Tryz.f79 (memC rQ (memC Cw zX)) (by kernel_rfl) (by kernel_rfl) fun x=>by kernel_rfl
theorem ZX:zo Tryz.prog (ZK zt):=
 okC (A:=⟨[zC zf],[],[],1,[],[],[]⟩) (exS:=⟨[.bool],[]⟩) Tryz.f80 (memC zD zX) (by kernel_rfl) (by kernel_rfl) fun x=>by kernel_rfl
theorem TR:zo Tryz.prog (NH zy):=
 okC (A:=⟨[zC zf,vG Ro,ZK zt],[],[],1,[],[],[]⟩) (exS:=⟨[.bool],[]⟩) Tryz.f81 (memC zD (memC rQ (memC ZX zX))) (by kernel_rfl) (by kernel_rfl) fun x=>by kernel_rfl
theorem Q8:zo Tryz.prog (Qj zP):=
 okC (A:=⟨[zC zf,sG Qt,ZK zt,qc zO],[(5,[3])],[],1,[(2,⟨[3],⟨[.own 1002],[(0, .row 91),(1002, .sl 5)]⟩,[0],[],[0],0,[],⟨[],[]⟩,[]⟩)],[],[]⟩) (exS:=⟨[.str],[(0, .row 91)]⟩) Tryz.f82 (memC zD (memC dQ (memC ZX (memC qR zX)))) (by kernel_rfl) (by kernel_rfl) fun x=>by kernel_rfl
theorem zeh:zo Tryz.prog (PR Zo):=
 okC (A:=⟨[zC zf,Vr Zh],[],[],1,[],[(5,⟨[3],⟨[.int .i64],[]⟩,[0],[],[],0,[],⟨[],[]⟩,[]⟩),(7,⟨[3],⟨[.int .i64],[]⟩,[],[],[],0,[],⟨[],[]⟩,[]⟩)],[]⟩) (exS:=⟨[.bool],[]⟩) Tryz.f83 (memC zD (memC Cw zX)) (by kernel_rfl) (by kernel_rfl) fun x=>by kernel_rfl
theorem zdG:zo Tryz.prog (nR zR):=
 okC (A:=⟨[zC zf,Vr Zh],[],[],1,[(0,⟨[],⟨[],[(0, .row 91)]⟩,[0,1],[],[0],0,[],⟨[],[(0, .row 91)]⟩,[0]⟩)],[],[]⟩) (exS:=⟨[],[(0, .row 91)]⟩) Tryz.f77 (memC zD (memC Cw zX)) (by kernel_rfl) (by kernel_rfl) fun x=>by kernel_rfl
theorem zdE:zo Tryz.prog (rR Zw):=
 okC (A:=⟨[zC zf,nR zR,Vr Zh],[],[],1,[],[(4,⟨[],⟨[],[(0, .row 91)]⟩,[0],[],[0],0,[],⟨[],[]⟩,[]⟩),(10,⟨[4],⟨[.bool],[(0, .row 91)]⟩,[],[],[0],0,[],⟨[],[]⟩,[]⟩),(15,⟨[4,5],⟨[.bool, .int .i64],[(0, .row 91)]⟩,[],[],[0],0,[],⟨[],[]⟩,[]⟩),(19,⟨[4],⟨[.bool],[(0, .row 91)]⟩,[],[],[0],0,[],⟨[],[]⟩,[]⟩)],[]⟩) (exS:=⟨[.bool],[(0, .row 91)]⟩) Tryz.f103 (memC zD (memC zdG (memC Cw zX))) (by kernel_rfl) (by kernel_rfl) fun x=>by kernel_rfl
theorem w9:zo Tryz.prog (GR Zz):=
 okC (A:=⟨[FM lh,MP QD,oH cutF],[],[],0,[(8,⟨[6,31],⟨[.int .i64, .int .i64],[]⟩,[0,2,3,4,5,29,30],[0],[],0,[6],⟨[.int .i64],[]⟩,[]⟩),(22,⟨[12,81],⟨[.int .i64, .int .i64],[]⟩,[4,79,80],[0],[],2,[12],⟨[.int .i64],[]⟩,[]⟩),(26,⟨[4,12],⟨[.int .i64, .int .i64],[]⟩,[],[],[],4,[12],⟨[.int .i64],[]⟩,[]⟩)],[(14,⟨[0,4,6],⟨[.str, .int .i64, .int .i64],[]⟩,[3,5],[],[],0,[],⟨[],[]⟩,[]⟩),(15,⟨[0,4],⟨[.str, .int .i64],[]⟩,[3],[],[],0,[],⟨[],[]⟩,[]⟩),(20,⟨[0,4],⟨[.str, .int .i64],[]⟩,[],[],[],0,[],⟨[],[]⟩,[]⟩),(31,⟨[12],⟨[.int .i64],[]⟩,[],[],[],0,[],⟨[],[]⟩,[]⟩)],[]⟩) (exS:=⟨[.int .i64],[]⟩) Tryz.f104 (memC lX (memC D6 (memC zAo zX))) (by kernel_rfl) (by kernel_rfl) fun x=>by kernel_rfl
theorem zdF:zo Tryz.prog (pR Zf):=
 okC (A:=⟨[rR Zw,GR Zz,NH zy,Qj zP,zC zf],[],[],1,[],[(9,⟨[],⟨[],[(0, .row 91),(1, .row 49),(2, .row 49)]⟩,[2,5],[],[0,1,2],0,[],⟨[],[]⟩,[]⟩)],[]⟩) (exS:=⟨[.optr 1],[(0, .row 91),(1, .row 49)]⟩) Tryz.f84 (memC zdE (memC w9 (memC TR (memC Q8 (memC zD zX))))) (by kernel_rfl) (by kernel_rfl) fun x=>by kernel_rfl
theorem nG:zo Tryz.prog (aA qa):=
 okC (A:=⟨[],[],[],0,[(3,⟨[10],⟨[.int .i64],[(0, .sl 5)]⟩,[2,3,8,9],[],[0],0,[],⟨[],[(0, .sl 5)]⟩,[0]⟩)],[(7,⟨[10],⟨[.int .i64],[(0, .sl 5)]⟩,[],[],[0],0,[],⟨[],[]⟩,[]⟩)],[]⟩) (exS:=⟨[.str],[]⟩) Tryz.f55 zX (by kernel_rfl) (by kernel_rfl) fun x=>by kernel_rfl
theorem oG:zo Tryz.prog (AB qp):=
 okC (A:=⟨[aA qa],[],[],0,[],[],[]⟩) (exS:=⟨[.bool],[]⟩) Tryz.f56 (memC nG zX) (by kernel_rfl) (by kernel_rfl) fun x=>by kernel_rfl
theorem zfK:zo Tryz.prog (JR Zy):=
 okC (A:=⟨[zC zf,ZK zt,aR Zi],[],[],1,[(1,⟨[],⟨[],[(0, .row 91),(1, .row 49)]⟩,[0,2],[],[0,1],0,[],⟨[],[]⟩,[]⟩)],[],[]⟩) (exS:=⟨[.optr 1],[(0, .row 91),(1, .row 49)]⟩) Tryz.f123 (memC zD (memC ZX (memC zcX zX))) (by kernel_rfl) (by kernel_rfl) fun x=>by kernel_rfl
theorem zfL:zo Tryz.prog (IR qb):=
 okC (A:=⟨[qZ zT,zC zf,Ur Zx,JR Zy,Aw ZT,ZK zt,qc zO],[(18,[3])],[],1,[(3,⟨[3],⟨[.own 1003],[(0, .row 91),(1, .row 49),(1003, .sl 5)]⟩,[0,2],[],[0,1],0,[],⟨[],[]⟩,[]⟩)],[(10,⟨[3,4],⟨[.own 1003, .int .i64],[(0, .row 91),(1, .row 49),(1003, .sl 5)]⟩,[],[],[0,1,1003],0,[],⟨[],[]⟩,[]⟩)],[]⟩) (exS:=⟨[.optr 1],[(0, .row 91),(1, .row 49)]⟩) Tryz.f105 (memC QT (memC zD (memC Bw (memC zfK (memC rA (memC ZX (memC qR zX))))))) (by kernel_rfl) (by kernel_rfl) fun x=>by kernel_rfl
theorem zez:zo Tryz.prog (UR Zj):=
 okC (A:=⟨[Qj zP,zC zf,AB qp,qZ zT,IR qb],[],[],1,[],[(11,⟨[],⟨[],[(0, .row 91),(1, .row 49)]⟩,[2,3],[],[0,1],0,[],⟨[],[]⟩,[]⟩)],[]⟩) (exS:=⟨[.optr 1],[(0, .row 91),(1, .row 49)]⟩) Tryz.f85 (memC Q8 (memC zD (memC oG (memC QT (memC zfL zX))))) (by kernel_rfl) (by kernel_rfl) fun x=>by kernel_rfl
theorem qz:zo Tryz.prog (Z6 strings_IndexByte):=
 okC (A:=⟨[uN Ru],[],[],0,[],[],[]⟩) (exS:=⟨[.int .i64],[]⟩) Tryz.f41 (memC kZ zX) (by kernel_rfl) (by kernel_rfl) fun x=>by kernel_rfl
theorem Y9:zo Tryz.prog (VR ZJ):=
 okC (A:=⟨[zC zf,Ur Zx,qZ zT,NR ZH,sG Qt,ZK zt,NH zy,Qj zP,PR Zo,pR Zf,Zg strings_HasPrefix,UR Zj,Z6 strings_IndexByte],[],[],1,[],[],[]⟩) (exS:=⟨[.optr 1],[(0, .row 91),(1, .row 49)]⟩) Tryz.f51 (memC zD (memC Bw (memC QT (memC zei (memC dQ (memC ZX (memC TR (memC Q8 (memC zeh (memC zdF (memC Zn (memC zez (memC qz zX))))))))))))) (by kernel_rfl) (by kernel_rfl) fun x=>by kernel_rfl
theorem V9:zo Tryz.prog (MR qX):=
 okC (A:=⟨[],[(1,[2])],[],2,[],[],[]⟩) (exS:=⟨[],[(0, .cells 41 [.own 2]),(2, .sl 49)]⟩) Tryz.f26 zX (by kernel_rfl) (by kernel_rfl) fun x=>by kernel_rfl
theorem G8:zo Tryz.prog (kQ Po):=
 okC (A:=⟨[JM ji,iR Zb,VR ZJ,MR qX],[],[],1,[(7,⟨[7],⟨[.int .i64],[(0, .cells 41 [.own 1004]),(1004, .sl 49),(1, .row 91)]⟩,[0,1,6],[],[0,1],0,[],⟨[],[(0, .cells 41 [.own 1004]),(1004, .sl 49),(1, .row 91)]⟩,[0,1,1004]⟩)],[],[]⟩) (exS:=⟨[.int .i64],[(0, .cells 41 [.own 1]),(1, .sl 49)]⟩) Tryz.f25 (memC bY (memC zdo (memC Y9 (memC V9 zX)))) (by kernel_rfl) (by kernel_rfl) fun x=>by kernel_rfl
theorem eQ:zo Tryz.prog (uG Qf):=
 okC (A:=⟨[kQ Po],[],[],0,[],[],[]⟩) (exS:=⟨[.sl 49, .int .i64],[]⟩) Tryz.f14 (memC G8 zX) (by kernel_rfl) (by kernel_rfl) fun x=>by kernel_rfl
theorem mG:zo Tryz.prog (YA qw):=
 okC (A:=⟨[],[],[],0,[],[(7,⟨[6],⟨[.bool],[]⟩,[0],[],[],0,[],⟨[],[]⟩,[]⟩)],[]⟩) (exS:=⟨[.int .u8],[]⟩) Tryz.f28 zX (by kernel_rfl) (by kernel_rfl) fun x=>by kernel_rfl
theorem I4(qy:List zb×Int->Option zw)(hs:zo Tryz.prog (Uv qy)):zo Tryz.prog (Uv (Kr qy)):=
 okC (A:=⟨[YA qw,Uv qy],[],[],0,[(3,⟨[12],⟨[.int .i64],[(1, .row 102)]⟩,[1,4,5,10,11],[0],[1],0,[],⟨[],[(1, .row 102)]⟩,[1]⟩)],[(9,⟨[],⟨[],[(1, .row 102)]⟩,[7,8,12],[2],[1],0,[],⟨[],[]⟩,[]⟩),(12,⟨[12],⟨[.int .i64],[(1, .row 102)]⟩,[],[],[1],0,[],⟨[],[]⟩,[]⟩)],[]⟩) (exS:=⟨[.optr 0],[(0, .row 102)]⟩) Tryz.f67 (memC mG (memC hs zX)) (by kernel_rfl) (by kernel_rfl) fun x=>by kernel_rfl
theorem V5:zo Tryz.prog (Uv qy):=
 zo.recE (I:=I) (P:=Tryz.prog) (f:=67) (inS:=⟨[.sl 51, .int .u8],[]⟩) (cst:=[]) (outS:=⟨[.val 102],[]⟩) (k:=0) (Kr) (by kernel_rfl) (fun S h=>I4 S h)
theorem VA:zo Tryz.prog (vv qI):=
 okC (A:=⟨[Uv qy],[],[],0,[],[],[]⟩) (exS:=⟨[.int .i64],[]⟩) Tryz.f44 (memC V5 zX) (by kernel_rfl) (by kernel_rfl) fun x=>by kernel_rfl
theorem ze9:zo Tryz.prog (YR Qe):=
 okC (A:=⟨[],[],[],0,[],[],[]⟩) (exS:=⟨[.own 0],[(0, .sl 51)]⟩) Tryz.f86 zX (by kernel_rfl) (by kernel_rfl) fun x=>by kernel_rfl
theorem Y3(Qo:List zb->Option (List zb))(hs:zo Tryz.prog (Nr Qo)):zo Tryz.prog (Nr (RA Qo)):=
 okC (A:=⟨[YR Qe,Nr Qo],[],[],0,[(3,⟨[8],⟨[.int .i64],[(0, .sl 51)]⟩,[0,2,7],[],[0],0,[],⟨[],[(0, .sl 51)]⟩,[0]⟩)],[],[]⟩) (exS:=⟨[.sl 51],[]⟩) Tryz.f52 (memC ze9 (memC hs zX)) (by kernel_rfl) (by kernel_rfl) fun x=>by kernel_rfl
theorem fP:zo Tryz.prog (Nr Qo):=
 zo.recE (I:=I) (P:=Tryz.prog) (f:=52) (inS:=⟨[.sl 51],[]⟩) (cst:=[]) (outS:=⟨[.sl 51],[]⟩) (k:=0) (RA) (by kernel_rfl) (fun S h=>Y3 S h)
theorem M7:zo Tryz.prog (nP Tv):=
 okC (A:=⟨[vv qI,Nr Qo],[(12,[7]),(15,[5])],[],0,[(9,⟨[7,8,24],⟨[.own 1006, .int .i64, .int .i64],[(1006, .sl 33)]⟩,[0,1,4,5,22,23],[],[],0,[7,8],⟨[.own 1006, .int .i64],[(1006, .sl 33)]⟩,[1006]⟩)],[(14,⟨[7,8,24],⟨[.own 1108, .int .i64, .int .i64],[(1108, .sl 33)]⟩,[],[],[],0,[],⟨[],[]⟩,[]⟩)],[]⟩) (exS:=⟨[.sl 33, .int .i64],[]⟩) Tryz.f29 (memC VA (memC fP zX)) (by kernel_rfl) (by kernel_rfl) fun x=>by kernel_rfl
theorem Io:zo Tryz.prog (ol Zp):=
 okC (A:=⟨[],[],[],0,[],[],[]⟩) (exS:=⟨[.bool],[]⟩) Tryz.f38 zX (by kernel_rfl) (by kernel_rfl) fun x=>by kernel_rfl
theorem H6:zo Tryz.prog (PP Xn):=
 okC (A:=⟨[ol Zp],[],[],0,[(1,⟨[0],⟨[.sl 51],[]⟩,[2],[],[],0,[0],⟨[.sl 51],[]⟩,[]⟩)],[],[]⟩) (exS:=⟨[.sl 51],[]⟩) Tryz.f54 (memC Io zX) (by kernel_rfl) (by kernel_rfl) fun x=>by kernel_rfl
theorem P7:zo Tryz.prog (sP Kk):=
 okC (A:=⟨[ol Zp],[],[],0,[(1,⟨[0],⟨[.sl 51],[]⟩,[2],[],[],0,[0],⟨[.sl 51],[]⟩,[]⟩)],[],[]⟩) (exS:=⟨[.sl 51],[]⟩) Tryz.f53 (memC Io zX) (by kernel_rfl) (by kernel_rfl) fun x=>by kernel_rfl
theorem gP:zo Tryz.prog (RG Nk):=
 okC (A:=⟨[ol Zp],[],[],0,[],[],[]⟩) (exS:=⟨[.bool],[]⟩) Tryz.f39 (memC Io zX) (by kernel_rfl) (by kernel_rfl) fun x=>by kernel_rfl
theorem F9:zo Tryz.prog (RQ Lr):=
 okC (A:=⟨[],[],[],1,[],[],[]⟩) (exS:=⟨[.bool],[]⟩) Tryz.f87 zX (by kernel_rfl) (by kernel_rfl) fun x=>by kernel_rfl
theorem X5:zo Tryz.prog (JP Mv):=
 okC (A:=⟨[vv qI,RQ Lr,Nr Qo],[],[],0,[(6,⟨[6],⟨[.int .i64],[]⟩,[1,2,3,5,7],[0],[],0,[6],⟨[.int .i64],[]⟩,[]⟩),(8,⟨[7],⟨[.int .i64],[]⟩,[1,2,3,5,6],[0],[],2,[7],⟨[.int .i64],[]⟩,[]⟩)],[],[]⟩) (exS:=⟨[.sl 51, .int .i64],[]⟩) Tryz.f57 (memC VA (memC F9 (memC fP zX))) (by kernel_rfl) (by kernel_rfl) fun x=>by kernel_rfl
theorem A9(ZG:List zb×List ze->Option (List ze))(hs:zo Tryz.prog (Dw ZG)):zo Tryz.prog (Dw (Sr ZG)):=
 okC (A:=⟨[YA qw,Dw ZG],[(4,[3]),(7,[6])],[],1,[(2,⟨[0,10],⟨[.own 1109, .int .i64],[(1109, .sl 49)]⟩,[4,8,9],[],[],0,[0],⟨[.own 1109],[(1109, .sl 49)]⟩,[1109]⟩)],[(8,⟨[0,10],⟨[.own 1211, .int .i64],[(1211, .sl 49)]⟩,[],[],[],0,[],⟨[],[]⟩,[]⟩)],[]⟩) (exS:=⟨[.own 1],[(1, .sl 49)]⟩) Tryz.f46 (memC mG (memC hs zX)) (by kernel_rfl) (by kernel_rfl) fun x=>by kernel_rfl
theorem E9:zo Tryz.prog (Dw ZG):=
 zo.recE (I:=I) (P:=Tryz.prog) (f:=46) (inS:=⟨[.own 0, .sl 51],[(0, .sl 49)]⟩) (cst:=[]) (outS:=⟨[.own 1],[(1, .sl 49)]⟩) (k:=1) (Sr) (by kernel_rfl) (fun S h=>A9 S h)
theorem sQ:zo Tryz.prog (PQ Qh):=
 okC (A:=⟨[YA qw,Dw ZG],[(4,[3]),(7,[6])],[],0,[(2,⟨[0,10],⟨[.own 1213, .int .i64],[(1213, .sl 49)]⟩,[4,8,9],[],[],0,[0],⟨[.own 1213],[(1213, .sl 49)]⟩,[1213]⟩)],[(8,⟨[0,10],⟨[.own 1315, .int .i64],[(1315, .sl 49)]⟩,[],[],[],0,[],⟨[],[]⟩,[]⟩)],[]⟩) (exS:=⟨[.own 0],[(0, .sl 49)]⟩) Tryz.f46 (memC mG (memC E9 zX)) (by kernel_rfl) (by kernel_rfl) fun x=>by kernel_rfl
theorem I8:zo Tryz.prog (mQ Qh):=FZ ipOK (by kernel_rfl) sQ
theorem l5:zo Tryz.prog (LP Ao):=
 okC (A:=⟨[vv qI,PQ Qh],[],[],0,[],[],[]⟩) (exS:=⟨[.sl 49, .int .i64],[]⟩) Tryz.f32 (memC VA (memC sQ zX)) (by kernel_rfl) (by kernel_rfl) fun x=>by kernel_rfl
theorem R7:zo Tryz.prog (uP Mo):=
 okC (A:=⟨[Z6 strings_IndexByte,Zg strings_HasPrefix,aA qa],[],[],0,[],[],[]⟩) (exS:=⟨[.bool],[]⟩) Tryz.f33 (memC qz (memC Zn (memC nG zX))) (by kernel_rfl) (by kernel_rfl) fun x=>by kernel_rfl
theorem zdn:zo Tryz.prog (jR stringslite_TrimPrefix):=
 okC (A:=⟨[Qv stringslite_HasPrefix],[],[],0,[],[],[]⟩) (exS:=⟨[.str],[]⟩) Tryz.f124 (memC dR zX) (by kernel_rfl) (by kernel_rfl) fun x=>by kernel_rfl
theorem d9:zo Tryz.prog (WR strings_TrimPrefix):=
 okC (A:=⟨[jR stringslite_TrimPrefix],[],[],0,[],[],[]⟩) (exS:=⟨[.str],[]⟩) Tryz.f106 (memC zdn zX) (by kernel_rfl) (by kernel_rfl) fun x=>by kernel_rfl
theorem Xv:zo Tryz.prog (jr ZP):=
 okC (A:=⟨[],[],[],0,[],[],[]⟩) (exS:=⟨[.bool],[]⟩) Tryz.f65 zX (by kernel_rfl) (by kernel_rfl) fun x=>by kernel_rfl
theorem CR:zo Tryz.prog (EH Qs):=
 okC (A:=⟨[WR strings_TrimPrefix,jr ZP],[],[],0,[],[],[]⟩) (exS:=⟨[.bool],[]⟩) Tryz.f88 (memC d9 (memC Xv zX)) (by kernel_rfl) (by kernel_rfl) fun x=>by kernel_rfl
theorem tQ:zo Tryz.prog (wG Mr):=
 okC (A:=⟨[],[],[],0,[],[],[]⟩) (exS:=⟨[.bool],[]⟩) Tryz.f92 zX (by kernel_rfl) (by kernel_rfl) fun x=>by kernel_rfl
theorem XG:zo Tryz.prog (bA qV):=
 okC (A:=⟨[wG Mr,jr ZP],[],[],0,[],[],[]⟩) (exS:=⟨[.bool],[]⟩) Tryz.f64 (memC tQ (memC Xv zX)) (by kernel_rfl) (by kernel_rfl) fun x=>by kernel_rfl
theorem W9:zo Tryz.prog (KR strings_Contains):=
 okC (A:=⟨[wE di],[],[],0,[],[],[]⟩) (exS:=⟨[.bool],[]⟩) Tryz.f89 (memC EN zX) (by kernel_rfl) (by kernel_rfl) fun x=>by kernel_rfl
theorem F6:zo Tryz.prog (NP pq):=
 okC (A:=⟨[Z6 strings_IndexByte,EH Qs,Zg strings_HasPrefix,bA qV,KR strings_Contains],[],[],0,[],[(8,⟨[3,4,5,6,7,25],⟨[.bool, .bool, .bool, .bool, .bool, .bool],[]⟩,[1,16],[],[],0,[],⟨[],[]⟩,[]⟩),(14,⟨[3,4,5,6,7,63],⟨[.bool, .bool, .bool, .bool, .bool, .bool],[]⟩,[],[],[],0,[],⟨[],[]⟩,[]⟩),(22,⟨[4,5,6,7,94],⟨[.bool, .bool, .bool, .bool, .bool],[]⟩,[3],[],[],0,[],⟨[],[]⟩,[]⟩),(24,⟨[3,4,5,6,7],⟨[.bool, .bool, .bool, .bool, .bool],[]⟩,[1],[0],[],0,[],⟨[],[]⟩,[]⟩)],[]⟩) (exS:=⟨[.bool],[]⟩) Tryz.f58 (memC qz (memC CR (memC Zn (memC XG (memC W9 zX))))) (by kernel_rfl) (by kernel_rfl) fun x=>by kernel_rfl
theorem J8:zo Tryz.prog (nQ Zu):=
 okC (A:=⟨[],[],[],1,[],[],[]⟩) (exS:=⟨[.bool],[]⟩) Tryz.f90 zX (by kernel_rfl) (by kernel_rfl) fun x=>by kernel_rfl
theorem xP:zo Tryz.prog (eG qW):=
 okC (A:=⟨[nQ Zu,AB qp],[],[],0,[],[(11,⟨[5],⟨[.int .i64],[]⟩,[3],[0],[],0,[],⟨[],[]⟩,[]⟩)],[]⟩) (exS:=⟨[.int .i64],[]⟩) Tryz.f59 (memC J8 (memC oG zX)) (by kernel_rfl) (by kernel_rfl) fun x=>by kernel_rfl
theorem AQ:zo Tryz.prog (gG QM):=
 okC (A:=⟨[NP pq,eG qW],[],[],0,[(4,⟨[10],⟨[.int .i64],[]⟩,[0,8,9],[],[],0,[],⟨[],[]⟩,[]⟩)],[],[]⟩) (exS:=⟨[.int .i64],[]⟩) Tryz.f34 (memC F6 (memC xP zX)) (by kernel_rfl) (by kernel_rfl) fun x=>by kernel_rfl
theorem T9(zk:List zb->Option Bool)(h_decl_closers:zo Tryz.prog (qC zk)):zo Tryz.prog (wQ (qD zk)):=
 okC (A:=⟨[ol Zp,qC zk],[],[],0,[],[],[]⟩) (exS:=⟨[.bool],[]⟩) Tryz.f60 (memC Io (memC h_decl_closers zX)) (by kernel_rfl) (by kernel_rfl) fun x=>by kernel_rfl
theorem zdm(zk:List zb->Option Bool)(h_decl_closers:zo Tryz.prog (qC zk)):zo Tryz.prog (kR (ZL zk)):=
 okC (A:=⟨[wQ (qD zk)],[],[],0,[(2,⟨[8],⟨[.int .i64],[]⟩,[0,1,7],[],[],0,[],⟨[],[]⟩,[]⟩)],[],[]⟩) (exS:=⟨[.int .i64],[]⟩) Tryz.f61 (memC (T9 zk h_decl_closers) zX) (by kernel_rfl) (by kernel_rfl) fun x=>by kernel_rfl
theorem zch(zk:List zb->Option Bool)(h_decl_closers:zo Tryz.prog (qC zk)):zo Tryz.prog (QX (Zm zk)):=
 okC (A:=⟨[kR (ZL zk)],[],[],0,[],[],[]⟩) (exS:=⟨[.bool],[]⟩) Tryz.f36 (memC (zdm zk h_decl_closers) zX) (by kernel_rfl) (by kernel_rfl) fun x=>by kernel_rfl
theorem F8(zk:List zb->Option Bool)(hs:zo Tryz.prog (qC zk)):zo Tryz.prog (qC (QL zk)):=
 okC (A:=⟨[QX (Zm zk)],[],[],0,[],[],[]⟩) (exS:=⟨[.bool],[]⟩) Tryz.f35 (memC (zch zk hs) zX) (by kernel_rfl) (by kernel_rfl) fun x=>by kernel_rfl
theorem K8:zo Tryz.prog (qC zk):=
 zo.recE (I:=I) (P:=Tryz.prog) (f:=35) (inS:=⟨[.sl 51],[]⟩) (cst:=[]) (outS:=⟨[.bool],[]⟩) (k:=0) (QL) (by kernel_rfl) (fun S h=>F8 S h)
theorem L8:zo Tryz.prog (oQ Yr):=
 okC (A:=⟨[ol Zp,RG Nk],[],[],0,[],[],[]⟩) (exS:=⟨[.bool],[]⟩) Tryz.f37 (memC Io (memC gP zX)) (by kernel_rfl) (by kernel_rfl) fun x=>by kernel_rfl
theorem zcL:zo Tryz.prog (bR Zq):=
 okC (A:=⟨[oQ Yr],[],[],0,[(2,⟨[8],⟨[.int .i64],[]⟩,[0,1,7],[],[],0,[],⟨[],[]⟩,[]⟩)],[],[]⟩) (exS:=⟨[.int .i64],[]⟩) Tryz.f61 (memC L8 zX) (by kernel_rfl) (by kernel_rfl) fun x=>by kernel_rfl
theorem zbS:zo Tryz.prog (QC Za):=
 okC (A:=⟨[bR Zq],[],[],0,[],[],[]⟩) (exS:=⟨[.bool],[]⟩) Tryz.f36 (memC zcL zX) (by kernel_rfl) (by kernel_rfl) fun x=>by kernel_rfl
theorem BQ:zo Tryz.prog (iG Mk):=
 okC (A:=⟨[LP Ao,uP Mo,gG QM,qC zk,QC Za,Zg strings_HasPrefix,ol Zp],[],[],0,[],[],[]⟩) (exS:=⟨[.int .i64],[]⟩) Tryz.f19 (memC l5 (memC R7 (memC AQ (memC K8 (memC zbS (memC Zn (memC Io zX))))))) (by kernel_rfl) (by kernel_rfl) fun x=>by kernel_rfl
theorem U2:zo Tryz.prog (bO ku):=
 okC (A:=⟨[PP Xn,sP Kk,ol Zp,Zg strings_HasPrefix,aA qa,AB qp,RG Nk,JP Mv,iG Mk],[],[],0,[],[(7,⟨[0],⟨[.sl 51],[(0, .cells 35 [.str, .nilv, .bool]),(1, .cells 35 [.str, .nilv, .bool])]⟩,[2,4],[],[0,1],0,[],⟨[],[]⟩,[]⟩),(16,⟨[0],⟨[.sl 51],[(0, .cells 35 [.str, .nilv, .bool]),(1, .cells 35 [.str, .nilv, .bool])]⟩,[],[],[0,1],0,[],⟨[],[]⟩,[]⟩)],[]⟩) (exS:=⟨[.optr 0, .bool],[(0, .row 35)]⟩) Tryz.f30 (memC H6 (memC P7 (memC Io (memC Zn (memC nG (memC oG (memC gP (memC X5 (memC BQ zX))))))))) (by kernel_rfl) (by kernel_rfl) fun x=>by kernel_rfl
theorem mZ:zo Tryz.prog (wN Vu):=
 okC (A:=⟨[nP Tv,bO ku],[(10,[2])],[],0,[(6,⟨[6,21],⟨[.own 1317, .int .i64],[(1317, .sl 35)]⟩,[2,3,19,20],[],[],0,[6],⟨[.own 1317],[(1317, .sl 35)]⟩,[1317]⟩)],[(11,⟨[6,21],⟨[.own 1419, .int .i64],[(1419, .sl 35)]⟩,[],[],[],0,[],⟨[],[]⟩,[]⟩)],[]⟩) (exS:=⟨[.sl 35, .int .i64],[]⟩) Tryz.f16 (memC M7 (memC U2 zX)) (by kernel_rfl) (by kernel_rfl) fun x=>by kernel_rfl
theorem iP:zo Tryz.prog (TG ll):=
 okC (A:=⟨[uG Qf,IM parseF,wN Vu],[],[],0,[],[],[]⟩) (exS:=⟨[.sl 35, .int .i64],[]⟩) Tryz.f7 (memC eQ (memC aY (memC mZ zX))) (by kernel_rfl) (by kernel_rfl) fun x=>by kernel_rfl
theorem yP:zo Tryz.prog (fG ZQ):=
 okC (A:=⟨[Zg strings_HasPrefix],[],[],0,[],[],[]⟩) (exS:=⟨[.int .i64],[]⟩) Tryz.f43 (memC Zn zX) (by kernel_rfl) (by kernel_rfl) fun x=>by kernel_rfl
theorem GH:zo Tryz.prog (BB Zc):=
 okC (A:=⟨[jr ZP,wG Mr,cO Tn],[(2,[2]),(3,[1]),(5,[1])],[],1,[],[],[]⟩) (exS:=⟨[.own 1],[(1, .sl 5)]⟩) Tryz.f66 (memC Xv (memC tQ (memC Y2 zX))) (by kernel_rfl) (by kernel_rfl) fun x=>by kernel_rfl
theorem N8:zo Tryz.prog (WQ Vo):=
 okC (A:=⟨[bA qV,jr ZP,BB Zc],[(6,[2])],[],0,[(2,⟨[0,11],⟨[.own 1421, .int .i64],[(1421, .sl 5)]⟩,[1,2,6,10],[],[],0,[0],⟨[.own 1421],[(1421, .sl 5)]⟩,[1421]⟩)],[(8,⟨[0,11],⟨[.own 1523, .int .i64],[(1523, .sl 5)]⟩,[],[],[],0,[],⟨[],[]⟩,[]⟩)],[]⟩) (exS:=⟨[.own 0],[(0, .sl 5)]⟩) Tryz.f42 (memC XG (memC Xv (memC GH zX))) (by kernel_rfl) (by kernel_rfl) fun x=>by kernel_rfl
theorem G6:zo Tryz.prog (OP Eo):=
 okC (A:=⟨[Z6 strings_IndexByte,fG ZQ,WQ Vo],[],[],0,[],[],[]⟩) (exS:=⟨[.str, .int .i64],[]⟩) Tryz.f20 (memC qz (memC yP (memC N8 zX))) (by kernel_rfl) (by kernel_rfl) fun x=>by kernel_rfl
theorem M8:zo Tryz.prog (VQ Z9):=
 okC (A:=⟨[bA qV,jr ZP,BB Zc],[(6,[2])],[],1,[(2,⟨[0,11],⟨[.own 1525, .int .i64],[(1525, .sl 5)]⟩,[1,2,6,10],[],[],0,[0],⟨[.own 1525],[(1525, .sl 5)]⟩,[1525]⟩)],[(8,⟨[0,11],⟨[.own 1627, .int .i64],[(1627, .sl 5)]⟩,[],[],[],0,[],⟨[],[]⟩,[]⟩)],[]⟩) (exS:=⟨[.own 1],[(1, .sl 5)]⟩) Tryz.f42 (memC XG (memC Xv (memC GH zX))) (by kernel_rfl) (by kernel_rfl) fun x=>by kernel_rfl
theorem N7:zo Tryz.prog (oP Hr):=
 okC (A:=⟨[],[],[],0,[],[],[]⟩) (exS:=⟨[.optr 0],[(0, .row 122)]⟩) Tryz.f95 zX (by kernel_rfl) (by kernel_rfl) fun x=>by kernel_rfl
theorem P9:zo Tryz.prog (AR qd):=
 okC (A:=⟨[dO Un,vN Jn,EM Jl],[(2,[1]),(6,[1])],[],1,[],[(3,⟨[0,1],⟨[.own 2149, .int .i64],[(2149, .sl 5)]⟩,[2],[],[],0,[],⟨[],[]⟩,[]⟩),(9,⟨[0],⟨[.own 2252],[(2252, .sl 5)]⟩,[],[],[],0,[],⟨[],[]⟩,[]⟩)],[]⟩) (exS:=⟨[.own 1],[(1, .sl 5)]⟩) Tryz.f94 (memC J3 (memC lZ (memC kX zX))) (by kernel_rfl) (by kernel_rfl) fun x=>by kernel_rfl
theorem I9:zo Tryz.prog (UQ Q5):=
 okC (A:=⟨[fG ZQ,VQ Z9,Z6 strings_IndexByte,BB Zc,AR qd,EH Qs,Zg strings_HasPrefix,oP Hr],[(5,[7]),(7,[1]),(12,[1]),(14,[1]),(20,[2]),(22,[1]),(30,[2]),(32,[1]),(38,[4])],[],1,[(16,⟨[0,67],⟨[.own 1942, .int .i64],[(1942, .sl 5)]⟩,[3,4,65,66],[1,4],[],1,[0],⟨[.own 1942],[(1942, .sl 5)]⟩,[1942]⟩),(26,⟨[0,93],⟨[.own 2046, .int .i64],[(2046, .sl 5)]⟩,[3,4,91,92],[1,3],[],3,[0],⟨[.own 2046],[(2046, .sl 5)]⟩,[2046]⟩)],[(12,⟨[5],⟨[.int .i64],[(0, .sl 5)]⟩,[0,3],[1],[0],0,[],⟨[],[]⟩,[]⟩),(21,⟨[0,67],⟨[.own 2044, .int .i64],[(2044, .sl 5)]⟩,[],[],[],0,[],⟨[],[]⟩,[]⟩),(31,⟨[0,93],⟨[.own 2148, .int .i64],[(2148, .sl 5)]⟩,[],[],[],0,[],⟨[],[]⟩,[]⟩)],[]⟩) (exS:=⟨[.own 1],[(1, .sl 5)]⟩) Tryz.f68 (memC yP (memC M8 (memC qz (memC GH (memC P9 (memC CR (memC Zn (memC N7 zX)))))))) (by kernel_rfl) (by kernel_rfl) fun x=>by kernel_rfl
theorem l9:zo Tryz.prog (XR ZI):=
 okC (A:=⟨[],[],[],0,[(4,⟨[13],⟨[.int .i64],[]⟩,[0,1,12],[],[],0,[],⟨[],[]⟩,[]⟩)],[],[]⟩) (exS:=⟨[.bool],[]⟩) Tryz.f69 zX (by kernel_rfl) (by kernel_rfl) fun x=>by kernel_rfl
theorem O7:zo Tryz.prog (rP Ko):=
 okC (A:=⟨[gG QM,eG qW,UQ Q5,uG Qf,XR ZI],[(24,[5])],[],0,[(7,⟨[5,6,7],⟨[.own 2359, .own 2360, .int .i64],[(2359, .sl 5),(2360, .sl 107)]⟩,[0],[],[],0,[5],⟨[.own 2359],[(2359, .sl 5)]⟩,[2359]⟩),(11,⟨[9,36],⟨[.own 1940, .int .i64],[(1940, .sl 5)]⟩,[5,6,7,8,34,35],[2359,2360],[],2,[9],⟨[.own 1940],[(1940, .sl 5)]⟩,[1940]⟩)],[(17,⟨[5,6,7,9],⟨[.own 2359, .own 2360, .int .i64, .own 2462],[(2359, .sl 5),(2360, .sl 107),(2462, .sl 5)]⟩,[8],[],[2359,2360],0,[],⟨[],[]⟩,[]⟩),(21,⟨[5,6,7],⟨[.own 2359, .own 2360, .int .i64],[(2359, .sl 5),(2360, .sl 107),(2463, .row 107)]⟩,[9,12],[2462],[2359,2360,2463],0,[],⟨[],[]⟩,[]⟩),(24,⟨[5,6,7],⟨[.own 2567, .own 2360, .int .i64],[(2360, .sl 107),(2567, .sl 5)]⟩,[],[2463],[2360],0,[],⟨[],[]⟩,[]⟩)],[]⟩) (exS:=⟨[.str, .int .i64],[]⟩) Tryz.f45 (memC AQ (memC xP (memC I9 (memC eQ (memC l9 zX))))) (by kernel_rfl) (by kernel_rfl) fun x=>by kernel_rfl
theorem Y5:zo Tryz.prog (KP yn):=
 okC (A:=⟨[vv qI,mQ Qh,rP Ko],[],[],0,[],[],[]⟩) (exS:=⟨[.str, .int .i64],[]⟩) Tryz.f21 (memC VA (memC I8 (memC O7 zX))) (by kernel_rfl) (by kernel_rfl) fun x=>by kernel_rfl
theorem I6:zo Tryz.prog (RP Yn):=
 okC (A:=⟨[iG Mk,OP Eo,KP yn],[],[],0,[],[(13,⟨[8],⟨[.str],[]⟩,[],[],[],0,[],⟨[],[]⟩,[]⟩)],[]⟩) (exS:=⟨[.str, .int .i64],[]⟩) Tryz.f12 (memC BQ (memC G6 (memC Y5 zX))) (by kernel_rfl) (by kernel_rfl) fun x=>by kernel_rfl
theorem jP:zo Tryz.prog (UG Dj):=
 okC (A:=⟨[RP Yn,xJ ak],[(12,[2])],[(14,[(4,none)])],0,[(6,⟨[4,5,16],⟨[.own 2568, .bool, .int .i64],[(2568, .sl 9)]⟩,[14,15],[],[],0,[4,5],⟨[.own 2568, .bool],[(2568, .sl 9)]⟩,[2568]⟩)],[],[]⟩) (exS:=⟨[.str, .int .i64],[]⟩) Tryz.f6 (memC I6 (memC pV zX)) (by kernel_rfl) (by kernel_rfl) fun x=>by kernel_rfl
theorem G9:zo Tryz.prog (SQ SA):=
 okC (A:=⟨[TG ll,UG Dj],[],[],0,[],[],[]⟩) (exS:=⟨[.bool],[]⟩) Tryz.f11 (memC iP (memC jP zX)) (by kernel_rfl) (by kernel_rfl) fun x=>by kernel_rfl
theorem H9:zo Tryz.prog (TQ Q6):=
 okC (A:=⟨[SQ SA],[],[],0,[],[],[]⟩) (exS:=⟨[.bool],[]⟩) Tryz.f5 (memC G9 zX) (by kernel_rfl) (by kernel_rfl) fun x=>by kernel_rfl
theorem V6(QR:List zb×List zb->Option Bool)(hs:zo Tryz.prog (jv QR)):zo Tryz.prog (jv (dA QR)):=
 okC (A:=⟨[jv QR],[],[],0,[(4,⟨[5],⟨[.int .i64],[]⟩,[0,1],[],[],0,[],⟨[],[]⟩,[]⟩)],[],[]⟩) (exS:=⟨[.bool],[]⟩) Tryz.f31 (memC hs zX) (by kernel_rfl) (by kernel_rfl) fun x=>by kernel_rfl
theorem A8:zo Tryz.prog (jv QR):=
 zo.recE (I:=I) (P:=Tryz.prog) (f:=31) (inS:=⟨[.sl 51, .sl 51],[]⟩) (cst:=[]) (outS:=⟨[.bool],[]⟩) (k:=0) (dA) (by kernel_rfl) (fun S h=>V6 S h)
theorem C9:zo Tryz.prog (NQ Vv):=
 okC (A:=⟨[jv QR],[],[],0,[],[],[]⟩) (exS:=⟨[.bool],[]⟩) Tryz.f17 (memC A8 zX) (by kernel_rfl) (by kernel_rfl) fun x=>by kernel_rfl
theorem l7:zo Tryz.prog (mP Sv):=
 okC (A:=⟨[NQ Vv],[],[],0,[(4,⟨[5],⟨[.int .i64],[]⟩,[0,1],[],[],0,[],⟨[],[]⟩,[]⟩)],[],[]⟩) (exS:=⟨[.bool],[]⟩) Tryz.f8 (memC C9 zX) (by kernel_rfl) (by kernel_rfl) fun x=>by kernel_rfl
theorem S9:zo Tryz.prog (vQ xA):=
 okC (A:=⟨[OQ Jr,TQ Q6,UG Dj,TG ll,mP Sv],[(7,[0])],[(15,[(15,none)])],0,[],[(11,⟨[12],⟨[.str],[]⟩,[0,1,7,9],[],[],0,[],⟨[],[]⟩,[]⟩),(17,⟨[15],⟨[.sl 35],[]⟩,[13],[],[],0,[],⟨[],[]⟩,[]⟩)],[]⟩) (exS:=⟨[.bool],[]⟩) Tryz.f3 (memC D9 (memC H9 (memC jP (memC iP (memC l7 zX))))) (by kernel_rfl) (by kernel_rfl) fun x=>by kernel_rfl
end Go.Lv.VT
end
