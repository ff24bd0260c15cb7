/- Contracts. -/
import Derived.Test.YtcdeccnjlkkejaaGreatDoorTx
import Derived.Test.YtcdeccnjlkkejaaGreatDoorIp
import Derived.Test.YtcdeccnjlkkejaaGreatDoorLf
import Derived.Test.YtcdeccnjlkkejaaGreatDoorPa
noncomputable section
set_option linter.unusedSimpArgs false
set_option linter.unusedVariables false
namespace Go.Lv.VT
set_option maxRecDepth 100000
open Go.Proofs
theorem okC{con:Con I}{A:Env0 I}{exS:StSh}(f:Go.Func)(hS: ∀c∈A.S,zm Tryz.prog c)(hf:Tryz.prog.funcs[con.f]? =some f)(h:chk con A f=true)(he: ∀x,evF2 A T FK f.ntmps (rsl f) (body f) con exS x=con.F x):zm Tryz.prog con:=
 okC0 mixed ipOK tok rfl rfl hS hf h he
def qJ(F:Str×Str->Option Bool):Con I:=⟨130,⟨[.str, .str],[]⟩,[],⟨[.bool],[]⟩,0,F⟩
def Zt(F:Str×Str->Option Bool):Con I:=⟨93,⟨[.str, .str],[]⟩,[],⟨[.bool],[]⟩,0,F⟩
def QT(F:za->Option za):Con I:=⟨100,⟨[.optr 0],[(0, .row 133)]⟩,[],⟨[],[(0, .row 133)]⟩,0,F⟩
def zn(F:Int×za->Option Int):Con I:=⟨137,⟨[.optr 0, .int .i64],[(0, .row 133)]⟩,[0],⟨[.int .i64],[]⟩,0,F⟩
def Qo(F:Int->Option Bool):Con I:=⟨138,⟨[.int .i64],[]⟩,[],⟨[.bool],[]⟩,0,F⟩
def Z0(F:za->Option za):Con I:=⟨139,⟨[.optr 0, .clo 138 []],[(0, .row 133)]⟩,[],⟨[],[(0, .row 133)]⟩,0,F⟩
def Qc(F:Int->Option (List UInt8)):Con I:=⟨237,⟨[.nilv, .int .i32],[]⟩,[],⟨[.own 0],[(0, .sl 5)]⟩,1,F⟩
def eG(F:Int->Option (List UInt8)):Con I:=⟨210,⟨[.nilv, .int .i32],[]⟩,[],⟨[.own 0],[(0, .sl 5)]⟩,1,F⟩
def QD(F:Int×Int×Int->Option Bool):Con I:=⟨212,⟨[.int .i64, .int .i64, .int .i64],[]⟩,[],⟨[.bool],[]⟩,0,F⟩
def Qn(F:Int->Option Bool):Con I:=⟨174,⟨[.int .i64],[]⟩,[],⟨[.bool],[]⟩,0,F⟩
def Bz(F:Int->Option Int):Con I:=⟨211,⟨[.int .i64],[]⟩,[],⟨[.int .i64],[]⟩,0,F⟩
def QC(F:za->Option (za×List UInt8)):Con I:=⟨172,⟨[.optr 0, .nilv],[(0, .row 133)]⟩,[],⟨[.own 1],[(0, .row 133),(1, .sl 5)]⟩,1,F⟩
def Qd(F:Int×List UInt8->Option (List UInt8)):Con I:=⟨237,⟨[.own 0, .int .i32],[(0, .sl 5)]⟩,[],⟨[.own 1],[(1, .sl 5)]⟩,1,F⟩
def dG(F:Int×List UInt8->Option (List UInt8)):Con I:=⟨210,⟨[.own 0, .int .i32],[(0, .sl 5)]⟩,[],⟨[.own 1],[(1, .sl 5)]⟩,1,F⟩
def Zw(F:za×List UInt8->Option (za×List UInt8)):Con I:=⟨172,⟨[.optr 0, .own 1],[(0, .row 133),(1, .sl 5)]⟩,[],⟨[.own 2],[(0, .row 133),(2, .sl 5)]⟩,1,F⟩
def lG(F:za->Option (zf×za)):Con I:=⟨140,⟨[.optr 0],[(0, .row 133)]⟩,[],⟨[.val 44],[(0, .row 133)]⟩,0,F⟩
def Kz(F:Int->Option Bool):Con I:=⟨173,⟨[.int .i64],[]⟩,[],⟨[.bool],[]⟩,0,F⟩
def oz(F:Int->Option Bool):Con I:=⟨141,⟨[.int .i64],[]⟩,[],⟨[.bool],[]⟩,0,F⟩
def Zd(F:Int×za->Option Bool):Con I:=⟨142,⟨[.optr 0, .int .i64],[(0, .row 133)]⟩,[0],⟨[.bool],[]⟩,0,F⟩
def Qw(F:Int×za->Option Bool):Con I:=⟨143,⟨[.optr 0, .int .i64],[(0, .row 133)]⟩,[0],⟨[.bool],[]⟩,0,F⟩
def ql(F:za->Option (Str×za)):Con I:=⟨144,⟨[.optr 0],[(0, .row 133)]⟩,[],⟨[.str],[(0, .row 133)]⟩,0,F⟩
def mG(F:za->Option Bool):Con I:=⟨145,⟨[.optr 0],[(0, .row 133)]⟩,[0],⟨[.bool],[]⟩,0,F⟩
def Q4(F:za->Option za):Con I:=⟨139,⟨[.optr 0, .clo 174 []],[(0, .row 133)]⟩,[],⟨[],[(0, .row 133)]⟩,0,F⟩
def Q0(F:za->Option (Bool×za)):Con I:=⟨175,⟨[.optr 0],[(0, .row 133)]⟩,[],⟨[.bool],[(0, .row 133)]⟩,0,F⟩
def fG(F:Str->Option Int):Con I:=⟨176,⟨[.str],[]⟩,[],⟨[.int .i64],[]⟩,0,F⟩
def Q3(F:za->Option (zf×za)):Con I:=⟨146,⟨[.optr 0],[(0, .row 133)]⟩,[],⟨[.val 44],[(0, .row 133)]⟩,0,F⟩
def kF(F:Str->Option Str):Con I:=⟨108,⟨[.str],[]⟩,[],⟨[.str],[]⟩,0,F⟩
def Oz(F:Str×Str->Option Bool):Con I:=⟨109,⟨[.str, .str],[]⟩,[],⟨[.bool],[]⟩,0,F⟩
def iG(F:za->Option (zf×za)):Con I:=⟨216,⟨[.optr 0],[(0, .row 133)]⟩,[],⟨[.val 44],[(0, .row 133)]⟩,0,F⟩
def gG(F:za->Option (zf×za)):Con I:=⟨177,⟨[.optr 0],[(0, .row 133)]⟩,[],⟨[.val 44],[(0, .row 133)]⟩,0,F⟩
def uG(F:za->Option (zf×za)):Con I:=⟨147,⟨[.optr 0],[(0, .row 133)]⟩,[],⟨[.val 44],[(0, .row 133)]⟩,0,F⟩
def qI(F:Str×Int->Option Int):Con I:=⟨119,⟨[.str, .int .u8],[]⟩,[],⟨[.int .i64],[]⟩,0,F⟩
def nG(F:za->Option (zf×za)):Con I:=⟨101,⟨[.optr 0],[(0, .row 133)]⟩,[],⟨[.val 44],[(0, .row 133)]⟩,0,F⟩
def jG(F:(zf×Int×Int)×List zf->Option (List zf)):Con I:=⟨70,⟨[.val 44, .int .i64, .int .i64, .optr 0],[(0, .cells 22 [.own 1]),(1, .sl 44)]⟩,[],⟨[],[(0, .cells 22 [.own 2]),(2, .sl 44)]⟩,1,F⟩
def TG(F:Str->Option (Int×List zf)):Con I:=⟨69,⟨[.str, .clo 70 [0]],[(0, .cells 22 [.nilv])]⟩,[],⟨[.int .i64],[(0, .cells 22 [.own 1]),(1, .sl 44)]⟩,1,F⟩
def Su(F:Str->Option (List zf×Int)):Con I:=⟨33,⟨[.str],[]⟩,[],⟨[.sl 44, .int .i64],[]⟩,0,F⟩
def Qm(F:Int->Option Int):Con I:=⟨61,⟨[.int .u8],[]⟩,[],⟨[.int .u8],[]⟩,0,F⟩
def ol(F:List zg×Int->Option zl):Con I:=⟨65,⟨[.sl 49, .int .u8],[]⟩,[],⟨[.val 101],[]⟩,0,F⟩
def Qb(F:List zg->Option Int):Con I:=⟨32,⟨[.sl 49],[]⟩,[],⟨[.int .i64],[]⟩,0,F⟩
def QZ(F:List zg×List zf->Option (List zf)):Con I:=⟨63,⟨[.own 0, .sl 49],[(0, .sl 44)]⟩,[],⟨[.own 1],[(1, .sl 44)]⟩,1,F⟩
def fF(F:List zg->Option (List zf)):Con I:=⟨63,⟨[.nilv, .sl 49],[]⟩,[],⟨[.own 0],[(0, .sl 44)]⟩,1,F⟩
def QS(F:Str×Str->Option Str):Con I:=⟨197,⟨[.str, .str],[]⟩,[],⟨[.str],[]⟩,0,F⟩
def oG(F:Str×Str->Option Str):Con I:=⟨162,⟨[.str, .str],[]⟩,[],⟨[.str],[]⟩,0,F⟩
def Bq(F:Int->Option Bool):Con I:=⟨155,⟨[.int .u8],[]⟩,[],⟨[.bool],[]⟩,0,F⟩
def pz(F:Str->Option Bool):Con I:=⟨122,⟨[.str],[]⟩,[],⟨[.bool],[]⟩,0,F⟩
def Pz(F:Int->Option Bool):Con I:=⟨157,⟨[.int .u8],[]⟩,[],⟨[.bool],[]⟩,0,F⟩
def Xz(F:Int->Option Bool):Con I:=⟨153,⟨[.int .u8],[]⟩,[],⟨[.bool],[]⟩,0,F⟩
def kG(F:Str×Str->Option Bool):Con I:=⟨154,⟨[.str, .str],[]⟩,[],⟨[.bool],[]⟩,0,F⟩
def yE(F:zf->Option Bool):Con I:=⟨115,⟨[.val 44],[]⟩,[],⟨[.bool],[]⟩,0,F⟩
def VG(F:(Int×Int)×List zf->Option Bool):Con I:=⟨116,⟨[.int .i64, .int .u8, .optr 0],[(0, .row 22)]⟩,[0],⟨[.bool],[]⟩,0,F⟩
def Wz(F:List zf->Option Int):Con I:=⟨80,⟨[.sl 44],[]⟩,[],⟨[.int .i64],[]⟩,0,F⟩
def bF(F:List zf->Option Int):Con I:=⟨79,⟨[.sl 44],[]⟩,[],⟨[.int .i64],[]⟩,0,F⟩
def YF(F:Str->Option Int):Con I:=⟨118,⟨[.str],[]⟩,[],⟨[.int .i64],[]⟩,0,F⟩
def gz(F:Int×List UInt8->Option (List UInt8)):Con I:=⟨120,⟨[.own 0, .int .u8],[(0, .sl 5)]⟩,[],⟨[.own 1],[(1, .sl 5)]⟩,1,F⟩
def mF(F:(Str×Int)×List UInt8->Option (List UInt8)):Con I:=⟨117,⟨[.own 0, .str, .int .i64],[(0, .sl 5)]⟩,[],⟨[.own 1],[(1, .sl 5)]⟩,1,F⟩
def XF(F:Unit->Option qQ):Con I:=⟨123,⟨[],[]⟩,[],⟨[.val 149],[]⟩,0,F⟩
def YG(F:(Int×Bool)×List UInt8->Option (List UInt8)):Con I:=⟨121,⟨[.own 0, .int .i64, .bool],[(0, .sl 5)]⟩,[],⟨[.own 1],[(1, .sl 5)]⟩,1,F⟩
def lF(F:zf×List UInt8->Option (List UInt8)):Con I:=⟨81,⟨[.own 0, .val 44],[(0, .sl 5)]⟩,[],⟨[.own 1],[(1, .sl 5)]⟩,1,F⟩
def pG(F:List zf×List zf->Option Bool):Con I:=⟨82,⟨[.sl 44, .sl 44],[]⟩,[],⟨[.bool],[]⟩,0,F⟩
def aF(F:List zf->Option (Str×Int)):Con I:=⟨46,⟨[.sl 44],[]⟩,[],⟨[.str, .int .i64],[]⟩,0,F⟩
def Cz(F:List zg->Option (Str×Int)):Con I:=⟨20,⟨[.sl 49],[]⟩,[],⟨[.str, .int .i64],[]⟩,0,F⟩
def Vz(F:List zg->Option (Int×Int)):Con I:=⟨26,⟨[.sl 49],[]⟩,[],⟨[.int .i64, .int .i64],[]⟩,0,F⟩
def Nz(F:Str->Option (Str×Int×Bool)):Con I:=⟨31,⟨[.str],[]⟩,[],⟨[.str, .int .i64, .bool],[]⟩,0,F⟩
def jF(F:Unit->Option Bool):Con I:=⟨24,⟨[],[]⟩,[],⟨[.bool],[]⟩,0,F⟩
def rG(F:List zg->Option (List zg)):Con I:=⟨98,⟨[.sl 49],[]⟩,[],⟨[.own 0],[(0, .sl 49)]⟩,1,F⟩
def ll(F:List zg->Option (List zg)):Con I:=⟨67,⟨[.sl 49],[]⟩,[],⟨[.sl 49],[]⟩,0,F⟩
def WF(F:List zg×Int->Option (List (List zg)×Int)):Con I:=⟨28,⟨[.sl 49, .int .u8],[]⟩,[],⟨[.sl 23, .int .i64],[]⟩,0,F⟩
def gF(F:Int×List zg->Option Bool):Con I:=⟨68,⟨[.int .i64, .optr 0],[(0, .row 23)]⟩,[0],⟨[.bool],[]⟩,0,F⟩
def vE(F:List zg->Option (List zg×Int)):Con I:=⟨29,⟨[.sl 49],[]⟩,[],⟨[.sl 49, .int .i64],[]⟩,0,F⟩
def wE(F:List zg->Option (List zf×Int)):Con I:=⟨18,⟨[.sl 49],[]⟩,[],⟨[.sl 44, .int .i64],[]⟩,0,F⟩
def iF(F:Int->Option (List zf)):Con I:=⟨30,⟨[.int .i64],[]⟩,[],⟨[.own 0],[(0, .sl 44)]⟩,1,F⟩
def yQ(F:Unit->Option Bool):Con I:=⟨6,⟨[],[]⟩,[],⟨[.bool],[]⟩,0,F⟩
def UG(F:List zg->Option (List zf)):Con I:=⟨63,⟨[.nilv, .sl 49],[]⟩,[],⟨[.sl 44],[]⟩,0,F⟩
def FC(F:Str->Option (Str×Int)):Con I:=⟨99,⟨[.str],[]⟩,[],⟨[.str, .int .i64],[]⟩,0,F⟩
theorem XL:zm Tryz.prog (FC Pk):=CL
def KD(F:Str×Int->Option Int):Con I:=⟨156,⟨[.str, .int .u8],[]⟩,[],⟨[.int .i64],[]⟩,0,F⟩
theorem vN:zm Tryz.prog (KD yn):=WN
def Xw(F:Str×Str->Option Int):Con I:=⟨136,⟨[.str, .str],[]⟩,[],⟨[.int .i64],[]⟩,0,F⟩
theorem lD:zm Tryz.prog (Xw Kj):=BL
def EC(F:Str×Str->Option Str):Con I:=⟨213,⟨[.str, .str],[]⟩,[],⟨[.str],[]⟩,0,F⟩
theorem WL:zm Tryz.prog (EC si):=AL
def DC(F:Str×Str->Option Str):Con I:=⟨160,⟨[.str, .str],[]⟩,[],⟨[.str],[]⟩,0,F⟩
theorem UL:zm Tryz.prog (DC Tk):=yK
def xE(F:Str×Str->Option Int):Con I:=⟨214,⟨[.str, .str],[]⟩,[],⟨[.int .i64],[]⟩,0,F⟩
theorem iP:zm Tryz.prog (xE wo):=eP
def UA(F:Str×Str->Option (Str×Str×Bool)):Con I:=⟨215,⟨[.str, .str],[]⟩,[],⟨[.str, .str, .bool],[]⟩,0,F⟩
theorem TJ:zm Tryz.prog (UA cutF):=yI
def LD(F:Int×Int->Option Str):Con I:=⟨161,⟨[.int .i64, .int .i64],[]⟩,[],⟨[.str],[]⟩,0,F⟩
theorem wN:zm Tryz.prog (LD uq):=XN
def wD(F:(Int×Int)×List UInt8->Option (List UInt8)):Con I:=⟨158,⟨[.own 0, .int .u64, .int .i64],[(0, .sl 5)]⟩,[],⟨[.own 1],[(1, .sl 5)]⟩,1,F⟩
theorem UO:zm Tryz.prog (wD Bt):=NP
def xD(F:(Int×Int)×List UInt8->Option (List UInt8)):Con I:=⟨159,⟨[.own 0, .int .i64, .int .i64],[(0, .sl 5)]⟩,[],⟨[.own 1],[(1, .sl 5)]⟩,1,F⟩
theorem VO:zm Tryz.prog (xD Dt):=OP
def Ps(F:List zf->Option (List zg×Int)):Con I:=⟨16,⟨[.sl 44],[]⟩,[],⟨[.sl 49, .int .i64],[]⟩,0,F⟩
theorem jw:zm Tryz.prog (Ps parseF):=eD
def JD(F:List zf->Option (List zg×Int)):Con I:=⟨16,⟨[.own 0],[(0, .sl 44)]⟩,[],⟨[.sl 49, .int .i64],[]⟩,0,F⟩
theorem tN:zm Tryz.prog (JD parseFo):=VN
theorem QX:zm Tryz.prog (qJ stringslite_HasPrefix):=
 okC (A:=⟨[],[],[],0,[],[],[]⟩) (exS:=⟨[.bool],[]⟩) Tryz.f130 zR (by kernel_rfl) (by kernel_rfl) fun x=>by kernel_rfl
theorem ZG:zm Tryz.prog (Zt strings_HasPrefix):=
 okC (A:=⟨[qJ stringslite_HasPrefix],[],[],0,[],[],[]⟩) (exS:=⟨[.bool],[]⟩) Tryz.f93 (memC QX zR) (by kernel_rfl) (by kernel_rfl) fun x=>by kernel_rfl
theorem uR:zm Tryz.prog (QT Zf):=
 okC (A:=⟨[Zt strings_HasPrefix,Xw Kj],[],[],1,[(0,⟨[],⟨[],[(0, .row 133)]⟩,[0],[],[0],0,[],⟨[],[(0, .row 133)]⟩,[0]⟩)],[],[]⟩) (exS:=⟨[],[(0, .row 133)]⟩) Tryz.f100 (memC ZG (memC lD zR)) (by kernel_rfl) (by kernel_rfl) fun x=>by kernel_rfl
theorem zq:zm Tryz.prog (zn zb):=
 okC (A:=⟨[],[],[],1,[],[],[]⟩) (exS:=⟨[.int .i64],[]⟩) Tryz.f137 zR (by kernel_rfl) (by kernel_rfl) fun x=>by kernel_rfl
theorem QJ:zm Tryz.prog (Qo Zb):=
 okC (A:=⟨[],[],[],0,[],[],[]⟩) (exS:=⟨[.bool],[]⟩) Tryz.f138 zR (by kernel_rfl) (by kernel_rfl) fun x=>by kernel_rfl
theorem qY:zm Tryz.prog (Z0 zG):=
 okC (A:=⟨[zn zb,Qo Zb],[],[],1,[(0,⟨[],⟨[],[(0, .row 133)]⟩,[0,1],[],[0],0,[],⟨[],[(0, .row 133)]⟩,[0]⟩)],[],[]⟩) (exS:=⟨[],[(0, .row 133)]⟩) Tryz.f139 (memC zq (memC QJ zR)) (by kernel_rfl) (by kernel_rfl) fun x=>by kernel_rfl
theorem JS:zm Tryz.prog (Qc qi):=
 okC (A:=⟨[],[(2,[1]),(4,[9]),(7,[14]),(9,[19])],[],0,[],[(7,⟨[25],⟨[.bool],[]⟩,[0,1,5],[],[],0,[],⟨[],[]⟩,[]⟩)],[]⟩) (exS:=⟨[.own 0],[(0, .sl 5)]⟩) Tryz.f237 zR (by kernel_rfl) (by kernel_rfl) fun x=>by kernel_rfl
theorem MR:zm Tryz.prog (eG ZL):=
 okC (A:=⟨[Qc qi],[(2,[3])],[],0,[],[],[]⟩) (exS:=⟨[.own 0],[(0, .sl 5)]⟩) Tryz.f210 (memC JS zR) (by kernel_rfl) (by kernel_rfl) fun x=>by kernel_rfl
theorem Q9:zm Tryz.prog (QD ZJ):=
 okC (A:=⟨[],[],[],0,[],[],[]⟩) (exS:=⟨[.bool],[]⟩) Tryz.f212 zR (by kernel_rfl) (by kernel_rfl) fun x=>by kernel_rfl
theorem QI:zm Tryz.prog (Qn Zi):=
 okC (A:=⟨[QD ZJ],[],[],0,[],[],[]⟩) (exS:=⟨[.bool],[]⟩) Tryz.f174 (memC Q9 zR) (by kernel_rfl) (by kernel_rfl) fun x=>by kernel_rfl
theorem EF:zm Tryz.prog (Bz Qj):=
 okC (A:=⟨[Qn Zi,QD ZJ],[],[],0,[],[],[]⟩) (exS:=⟨[.int .i64],[]⟩) Tryz.f211 (memC QI (memC Q9 zR)) (by kernel_rfl) (by kernel_rfl) fun x=>by kernel_rfl
theorem pR:zm Tryz.prog (QC Zo):=
 okC (A:=⟨[zn zb,eG ZL,Bz Qj,Qo Zb],[(7,[3])],[],1,[(10,⟨[6,36],⟨[.int .i64, .int .i64],[(0, .row 133)]⟩,[0,1,4],[],[0],0,[6],⟨[.int .i64],[(0, .row 133)]⟩,[0]⟩)],[(17,⟨[6],⟨[.int .i64],[(0, .row 133)]⟩,[1],[],[0],0,[],⟨[],[]⟩,[]⟩),(19,⟨[6],⟨[.int .i64],[]⟩,[],[0],[],0,[],⟨[],[]⟩,[]⟩)],[]⟩) (exS:=⟨[.own 1],[(0, .row 133),(1, .sl 5)]⟩) Tryz.f172 (memC zq (memC MR (memC EF (memC QJ zR)))) (by kernel_rfl) (by kernel_rfl) fun x=>by kernel_rfl
theorem CS:zm Tryz.prog (Qd qj):=
 okC (A:=⟨[],[(2,[1]),(4,[9]),(7,[14]),(9,[19])],[],1,[],[(7,⟨[25],⟨[.bool],[(0, .sl 5)]⟩,[0,1,5],[],[0],0,[],⟨[],[]⟩,[]⟩)],[]⟩) (exS:=⟨[.own 1],[(1, .sl 5)]⟩) Tryz.f237 zR (by kernel_rfl) (by kernel_rfl) fun x=>by kernel_rfl
theorem KR:zm Tryz.prog (dG ZM):=
 okC (A:=⟨[Qd qj],[(2,[3])],[],1,[],[],[]⟩) (exS:=⟨[.own 1],[(1, .sl 5)]⟩) Tryz.f210 (memC CS zR) (by kernel_rfl) (by kernel_rfl) fun x=>by kernel_rfl
theorem ZX:zm Tryz.prog (Zw zz):=
 okC (A:=⟨[zn zb,dG ZM,Bz Qj,Qo Zb],[(7,[3])],[],2,[(10,⟨[6,36],⟨[.int .i64, .int .i64],[(0, .row 133)]⟩,[0,1,4],[1],[0],0,[6],⟨[.int .i64],[(0, .row 133)]⟩,[0]⟩)],[(17,⟨[6],⟨[.int .i64],[(0, .row 133),(1, .sl 5)]⟩,[1],[],[0,1],0,[],⟨[],[]⟩,[]⟩),(19,⟨[6],⟨[.int .i64],[(1, .sl 5)]⟩,[],[0],[1],0,[],⟨[],[]⟩,[]⟩)],[]⟩) (exS:=⟨[.own 2],[(0, .row 133),(2, .sl 5)]⟩) Tryz.f172 (memC zq (memC KR (memC EF (memC QJ zR)))) (by kernel_rfl) (by kernel_rfl) fun x=>by kernel_rfl
theorem iR:zm Tryz.prog (lG ZH):=
 okC (A:=⟨[zn zb,Zw zz],[(5,[3])],[],1,[(4,⟨[4],⟨[.own 1104],[(0, .row 133),(1, .row 44),(1104, .sl 5)]⟩,[0,2,3],[],[0,1],0,[4],⟨[.own 1104],[(0, .row 133),(1, .row 44),(1104, .sl 5)]⟩,[0,1,1104]⟩)],[],[]⟩) (exS:=⟨[.optr 1],[(0, .row 133),(1, .row 44)]⟩) Tryz.f140 (memC zq (memC ZX zR)) (by kernel_rfl) (by kernel_rfl) fun x=>by kernel_rfl
theorem GG:zm Tryz.prog (Kz ul):=
 okC (A:=⟨[QD ZJ],[],[],0,[],[],[]⟩) (exS:=⟨[.bool],[]⟩) Tryz.f173 (memC Q9 zR) (by kernel_rfl) (by kernel_rfl) fun x=>by kernel_rfl
theorem EG:zm Tryz.prog (oz Qk):=
 okC (A:=⟨[Kz ul,Qn Zi],[],[],0,[],[],[]⟩) (exS:=⟨[.bool],[]⟩) Tryz.f141 (memC GG (memC QI zR)) (by kernel_rfl) (by kernel_rfl) fun x=>by kernel_rfl
theorem Zn:zm Tryz.prog (Zd zo):=
 okC (A:=⟨[zn zb],[],[],1,[],[],[]⟩) (exS:=⟨[.bool],[]⟩) Tryz.f142 (memC zq zR) (by kernel_rfl) (by kernel_rfl) fun x=>by kernel_rfl
theorem sG:zm Tryz.prog (Qw zF):=
 okC (A:=⟨[zn zb,Kz ul,Zd zo],[],[],1,[],[],[]⟩) (exS:=⟨[.bool],[]⟩) Tryz.f143 (memC zq (memC GG (memC Zn zR))) (by kernel_rfl) (by kernel_rfl) fun x=>by kernel_rfl
theorem Qi:zm Tryz.prog (ql zK):=
 okC (A:=⟨[zn zb,oz Qk,Zd zo,Zw zz],[(5,[3])],[],1,[(2,⟨[3],⟨[.own 1105],[(0, .row 133),(1105, .sl 5)]⟩,[0],[],[0],0,[],⟨[],[]⟩,[]⟩)],[],[]⟩) (exS:=⟨[.str],[(0, .row 133)]⟩) Tryz.f144 (memC zq (memC EG (memC Zn (memC ZX zR)))) (by kernel_rfl) (by kernel_rfl) fun x=>by kernel_rfl
theorem WR:zm Tryz.prog (mG qm):=
 okC (A:=⟨[zn zb,Qn Zi],[],[],1,[],[(5,⟨[3],⟨[.int .i64],[]⟩,[0],[],[],0,[],⟨[],[]⟩,[]⟩),(7,⟨[3],⟨[.int .i64],[]⟩,[],[],[],0,[],⟨[],[]⟩,[]⟩)],[]⟩) (exS:=⟨[.bool],[]⟩) Tryz.f145 (memC zq (memC QI zR)) (by kernel_rfl) (by kernel_rfl) fun x=>by kernel_rfl
theorem YR:zm Tryz.prog (Q4 zV):=
 okC (A:=⟨[zn zb,Qn Zi],[],[],1,[(0,⟨[],⟨[],[(0, .row 133)]⟩,[0,1],[],[0],0,[],⟨[],[(0, .row 133)]⟩,[0]⟩)],[],[]⟩) (exS:=⟨[],[(0, .row 133)]⟩) Tryz.f139 (memC zq (memC QI zR)) (by kernel_rfl) (by kernel_rfl) fun x=>by kernel_rfl
theorem xR:zm Tryz.prog (Q0 Zy):=
 okC (A:=⟨[zn zb,Q4 zV,Qn Zi],[],[],1,[],[(4,⟨[],⟨[],[(0, .row 133)]⟩,[0],[],[0],0,[],⟨[],[]⟩,[]⟩),(10,⟨[4],⟨[.bool],[(0, .row 133)]⟩,[],[],[0],0,[],⟨[],[]⟩,[]⟩),(15,⟨[4,5],⟨[.bool, .int .i64],[(0, .row 133)]⟩,[],[],[0],0,[],⟨[],[]⟩,[]⟩),(19,⟨[4],⟨[.bool],[(0, .row 133)]⟩,[],[],[0],0,[],⟨[],[]⟩,[]⟩)],[]⟩) (exS:=⟨[.bool],[(0, .row 133)]⟩) Tryz.f175 (memC zq (memC YR (memC QI zR))) (by kernel_rfl) (by kernel_rfl) fun x=>by kernel_rfl
theorem NR:zm Tryz.prog (fG qD):=
 okC (A:=⟨[EC si,xE wo,UA cutF],[],[],0,[(8,⟨[6,31],⟨[.int .i64, .int .i64],[]⟩,[0,2,3,4,5,29,30],[0],[],0,[6],⟨[.int .i64],[]⟩,[]⟩),(22,⟨[12,81],⟨[.int .i64, .int .i64],[]⟩,[4,79,80],[0],[],2,[12],⟨[.int .i64],[]⟩,[]⟩),(26,⟨[4,12],⟨[.int .i64, .int .i64],[]⟩,[],[],[],4,[12],⟨[.int .i64],[]⟩,[]⟩)],[(14,⟨[0,4,6],⟨[.str, .int .i64, .int .i64],[]⟩,[3,5],[],[],0,[],⟨[],[]⟩,[]⟩),(15,⟨[0,4],⟨[.str, .int .i64],[]⟩,[3],[],[],0,[],⟨[],[]⟩,[]⟩),(20,⟨[0,4],⟨[.str, .int .i64],[]⟩,[],[],[],0,[],⟨[],[]⟩,[]⟩),(31,⟨[12],⟨[.int .i64],[]⟩,[],[],[],0,[],⟨[],[]⟩,[]⟩)],[]⟩) (exS:=⟨[.int .i64],[]⟩) Tryz.f176 (memC WL (memC iP (memC TJ zR))) (by kernel_rfl) (by kernel_rfl) fun x=>by kernel_rfl
theorem wR:zm Tryz.prog (Q3 Zz):=
 okC (A:=⟨[Q0 Zy,fG qD,Qw zF,ql zK,zn zb],[],[],1,[],[(9,⟨[],⟨[],[(0, .row 133),(1, .row 44),(2, .row 44)]⟩,[2,5],[],[0,1,2],0,[],⟨[],[]⟩,[]⟩)],[]⟩) (exS:=⟨[.optr 1],[(0, .row 133),(1, .row 44)]⟩) Tryz.f146 (memC xR (memC NR (memC sG (memC Qi (memC zq zR))))) (by kernel_rfl) (by kernel_rfl) fun x=>by kernel_rfl
theorem VQ:zm Tryz.prog (kF il):=
 okC (A:=⟨[],[],[],0,[(3,⟨[10],⟨[.int .i64],[(0, .sl 5)]⟩,[2,3,8,9],[],[0],0,[],⟨[],[(0, .sl 5)]⟩,[0]⟩)],[(7,⟨[10],⟨[.int .i64],[(0, .sl 5)]⟩,[],[],[0],0,[],⟨[],[]⟩,[]⟩)],[]⟩) (exS:=⟨[.str],[]⟩) Tryz.f108 zR (by kernel_rfl) (by kernel_rfl) fun x=>by kernel_rfl
theorem KG:zm Tryz.prog (Oz QO):=
 okC (A:=⟨[kF il],[],[],0,[],[],[]⟩) (exS:=⟨[.bool],[]⟩) Tryz.f109 (memC VQ zR) (by kernel_rfl) (by kernel_rfl) fun x=>by kernel_rfl
theorem TR:zm Tryz.prog (iG Zv):=
 okC (A:=⟨[zn zb,Zd zo,QC Zo],[],[],1,[(1,⟨[],⟨[],[(0, .row 133),(1, .row 44)]⟩,[0,2],[],[0,1],0,[],⟨[],[]⟩,[]⟩)],[],[]⟩) (exS:=⟨[.optr 1],[(0, .row 133),(1, .row 44)]⟩) Tryz.f216 (memC zq (memC Zn (memC pR zR))) (by kernel_rfl) (by kernel_rfl) fun x=>by kernel_rfl
theorem PR:zm Tryz.prog (gG qC):=
 okC (A:=⟨[Z0 zG,zn zb,Qo Zb,iG Zv,QD ZJ,Zd zo,Zw zz],[(18,[3])],[],1,[(3,⟨[3],⟨[.own 1106],[(0, .row 133),(1, .row 44),(1106, .sl 5)]⟩,[0,2],[],[0,1],0,[],⟨[],[]⟩,[]⟩)],[(10,⟨[3,4],⟨[.own 1106, .int .i64],[(0, .row 133),(1, .row 44),(1106, .sl 5)]⟩,[],[],[0,1,1106],0,[],⟨[],[]⟩,[]⟩)],[]⟩) (exS:=⟨[.optr 1],[(0, .row 133),(1, .row 44)]⟩) Tryz.f177 (memC qY (memC zq (memC QJ (memC TR (memC Q9 (memC Zn (memC ZX zR))))))) (by kernel_rfl) (by kernel_rfl) fun x=>by kernel_rfl
theorem bR:zm Tryz.prog (uG ZQ):=
 okC (A:=⟨[ql zK,zn zb,Oz QO,Z0 zG,gG qC],[],[],1,[],[(11,⟨[],⟨[],[(0, .row 133),(1, .row 44)]⟩,[2,3],[],[0,1],0,[],⟨[],[]⟩,[]⟩)],[]⟩) (exS:=⟨[.optr 1],[(0, .row 133),(1, .row 44)]⟩) Tryz.f147 (memC Qi (memC zq (memC KG (memC qY (memC PR zR))))) (by kernel_rfl) (by kernel_rfl) fun x=>by kernel_rfl
theorem Qy:zm Tryz.prog (qI strings_IndexByte):=
 okC (A:=⟨[KD yn],[],[],0,[],[],[]⟩) (exS:=⟨[.int .i64],[]⟩) Tryz.f119 (memC vN zR) (by kernel_rfl) (by kernel_rfl) fun x=>by kernel_rfl
theorem JR:zm Tryz.prog (nG qb):=
 okC (A:=⟨[zn zb,Qo Zb,Z0 zG,lG ZH,oz Qk,Zd zo,Qw zF,ql zK,mG qm,Q3 Zz,Zt strings_HasPrefix,uG ZQ,qI strings_IndexByte],[],[],1,[],[],[]⟩) (exS:=⟨[.optr 1],[(0, .row 133),(1, .row 44)]⟩) Tryz.f101 (memC zq (memC QJ (memC qY (memC iR (memC EG (memC Zn (memC sG (memC Qi (memC WR (memC wR (memC ZG (memC bR (memC Qy zR))))))))))))) (by kernel_rfl) (by kernel_rfl) fun x=>by kernel_rfl
theorem ER:zm Tryz.prog (jG QN):=
 okC (A:=⟨[],[(1,[2])],[],2,[],[],[]⟩) (exS:=⟨[],[(0, .cells 22 [.own 2]),(2, .sl 44)]⟩) Tryz.f70 zR (by kernel_rfl) (by kernel_rfl) fun x=>by kernel_rfl
theorem gQ:zm Tryz.prog (TG Yp):=
 okC (A:=⟨[FC Pk,QT Zf,nG qb,jG QN],[],[],1,[(7,⟨[7],⟨[.int .i64],[(0, .cells 22 [.own 1107]),(1107, .sl 44),(1, .row 133)]⟩,[0,1,6],[],[0,1],0,[],⟨[],[(0, .cells 22 [.own 1107]),(1107, .sl 44),(1, .row 133)]⟩,[0,1,1107]⟩)],[],[]⟩) (exS:=⟨[.int .i64],[(0, .cells 22 [.own 1]),(1, .sl 44)]⟩) Tryz.f69 (memC XL (memC uR (memC JR (memC ER zR)))) (by kernel_rfl) (by kernel_rfl) fun x=>by kernel_rfl
theorem az:zm Tryz.prog (Su qa):=
 okC (A:=⟨[TG Yp],[],[],0,[],[],[]⟩) (exS:=⟨[.sl 44, .int .i64],[]⟩) Tryz.f33 (memC gQ zR) (by kernel_rfl) (by kernel_rfl) fun x=>by kernel_rfl
theorem QH:zm Tryz.prog (Qm Zh):=
 okC (A:=⟨[],[],[],0,[],[(7,⟨[6],⟨[.bool],[]⟩,[0],[],[],0,[],⟨[],[]⟩,[]⟩)],[]⟩) (exS:=⟨[.int .u8],[]⟩) Tryz.f61 zR (by kernel_rfl) (by kernel_rfl) fun x=>by kernel_rfl
theorem rO(Zr:List zg×Int->Option zl)(hs:zm Tryz.prog (ol Zr)):zm Tryz.prog (ol (Wl Zr)):=
 okC (A:=⟨[Qm Zh,ol Zr],[],[],0,[(3,⟨[12],⟨[.int .i64],[(1, .row 101)]⟩,[1,4,5,10,11],[0],[1],0,[],⟨[],[(1, .row 101)]⟩,[1]⟩)],[(9,⟨[],⟨[],[(1, .row 101)]⟩,[7,8,12],[2],[1],0,[],⟨[],[]⟩,[]⟩),(12,⟨[12],⟨[.int .i64],[(1, .row 101)]⟩,[],[],[1],0,[],⟨[],[]⟩,[]⟩)],[]⟩) (exS:=⟨[.optr 0],[(0, .row 101)]⟩) Tryz.f65 (memC QH (memC hs zR)) (by kernel_rfl) (by kernel_rfl) fun x=>by kernel_rfl
theorem KF:zm Tryz.prog (ol Zr):=
 zm.recE (I:=I) (P:=Tryz.prog) (f:=65) (inS:=⟨[.sl 49, .int .u8],[]⟩) (cst:=[]) (outS:=⟨[.val 101],[]⟩) (k:=0) (Wl) (by kernel_rfl) (fun S h=>rO S h)
theorem Qq:zm Tryz.prog (Qb zH):=
 okC (A:=⟨[ol Zr],[],[],0,[],[],[]⟩) (exS:=⟨[.int .i64],[]⟩) Tryz.f32 (memC KF zR) (by kernel_rfl) (by kernel_rfl) fun x=>by kernel_rfl
theorem OQ(Za:List zg×List zf->Option (List zf))(hs:zm Tryz.prog (QZ Za)):zm Tryz.prog (QZ (Qp Za)):=
 okC (A:=⟨[Qm Zh,QZ Za],[(4,[3]),(7,[6])],[],1,[(2,⟨[0,10],⟨[.own 1108, .int .i64],[(1108, .sl 44)]⟩,[4,8,9],[],[],0,[0],⟨[.own 1108],[(1108, .sl 44)]⟩,[1108]⟩)],[(8,⟨[0,10],⟨[.own 1210, .int .i64],[(1210, .sl 44)]⟩,[],[],[],0,[],⟨[],[]⟩,[]⟩)],[]⟩) (exS:=⟨[.own 1],[(1, .sl 44)]⟩) Tryz.f63 (memC QH (memC hs zR)) (by kernel_rfl) (by kernel_rfl) fun x=>by kernel_rfl
theorem RQ:zm Tryz.prog (QZ Za):=
 zm.recE (I:=I) (P:=Tryz.prog) (f:=63) (inS:=⟨[.own 0, .sl 49],[(0, .sl 44)]⟩) (cst:=[]) (outS:=⟨[.own 1],[(1, .sl 44)]⟩) (k:=1) (Qp) (by kernel_rfl) (fun S h=>OQ S h)
theorem IG:zm Tryz.prog (fF qg):=
 okC (A:=⟨[Qm Zh,QZ Za],[(4,[3]),(7,[6])],[],0,[(2,⟨[0,10],⟨[.own 1212, .int .i64],[(1212, .sl 44)]⟩,[4,8,9],[],[],0,[0],⟨[.own 1212],[(1212, .sl 44)]⟩,[1212]⟩)],[(8,⟨[0,10],⟨[.own 1314, .int .i64],[(1314, .sl 44)]⟩,[],[],[],0,[],⟨[],[]⟩,[]⟩)],[]⟩) (exS:=⟨[.own 0],[(0, .sl 44)]⟩) Tryz.f63 (memC QH (memC RQ zR)) (by kernel_rfl) (by kernel_rfl) fun x=>by kernel_rfl
theorem iQ:zm Tryz.prog (UG qg):=lM ipOK (by kernel_rfl) IG
theorem vR:zm Tryz.prog (QS stringslite_TrimPrefix):=
 okC (A:=⟨[qJ stringslite_HasPrefix],[],[],0,[],[],[]⟩) (exS:=⟨[.str],[]⟩) Tryz.f197 (memC QX zR) (by kernel_rfl) (by kernel_rfl) fun x=>by kernel_rfl
theorem jR:zm Tryz.prog (oG strings_TrimPrefix):=
 okC (A:=⟨[QS stringslite_TrimPrefix],[],[],0,[],[],[]⟩) (exS:=⟨[.str],[]⟩) Tryz.f162 (memC vR zR) (by kernel_rfl) (by kernel_rfl) fun x=>by kernel_rfl
theorem Vu:zm Tryz.prog (Bq qR):=
 okC (A:=⟨[],[],[],0,[],[],[]⟩) (exS:=⟨[.bool],[]⟩) Tryz.f155 zR (by kernel_rfl) (by kernel_rfl) fun x=>by kernel_rfl
theorem bG:zm Tryz.prog (pz QV):=
 okC (A:=⟨[oG strings_TrimPrefix,Bq qR],[],[],0,[],[],[]⟩) (exS:=⟨[.bool],[]⟩) Tryz.f122 (memC jR (memC Vu zR)) (by kernel_rfl) (by kernel_rfl) fun x=>by kernel_rfl
theorem LG:zm Tryz.prog (Pz Jp):=
 okC (A:=⟨[],[],[],0,[],[],[]⟩) (exS:=⟨[.bool],[]⟩) Tryz.f157 zR (by kernel_rfl) (by kernel_rfl) fun x=>by kernel_rfl
theorem rF:zm Tryz.prog (Xz Rl):=
 okC (A:=⟨[Pz Jp,Bq qR],[],[],0,[],[],[]⟩) (exS:=⟨[.bool],[]⟩) Tryz.f153 (memC LG (memC Vu zR)) (by kernel_rfl) (by kernel_rfl) fun x=>by kernel_rfl
theorem FR:zm Tryz.prog (kG strings_Contains):=
 okC (A:=⟨[Xw Kj],[],[],0,[],[],[]⟩) (exS:=⟨[.bool],[]⟩) Tryz.f154 (memC lD zR) (by kernel_rfl) (by kernel_rfl) fun x=>by kernel_rfl
theorem jP:zm Tryz.prog (yE Nt):=
 okC (A:=⟨[qI strings_IndexByte,pz QV,Zt strings_HasPrefix,Xz Rl,kG strings_Contains],[],[],0,[],[(8,⟨[3,4,5,6,7,25],⟨[.bool, .bool, .bool, .bool, .bool, .bool],[]⟩,[1,16],[],[],0,[],⟨[],[]⟩,[]⟩),(14,⟨[3,4,5,6,7,63],⟨[.bool, .bool, .bool, .bool, .bool, .bool],[]⟩,[],[],[],0,[],⟨[],[]⟩,[]⟩),(22,⟨[4,5,6,7,94],⟨[.bool, .bool, .bool, .bool, .bool],[]⟩,[3],[],[],0,[],⟨[],[]⟩,[]⟩),(24,⟨[3,4,5,6,7],⟨[.bool, .bool, .bool, .bool, .bool],[]⟩,[1],[0],[],0,[],⟨[],[]⟩,[]⟩)],[]⟩) (exS:=⟨[.bool],[]⟩) Tryz.f115 (memC Qy (memC bG (memC ZG (memC rF (memC FR zR))))) (by kernel_rfl) (by kernel_rfl) fun x=>by kernel_rfl
theorem jQ:zm Tryz.prog (VG qF):=
 okC (A:=⟨[],[],[],1,[],[],[]⟩) (exS:=⟨[.bool],[]⟩) Tryz.f116 zR (by kernel_rfl) (by kernel_rfl) fun x=>by kernel_rfl
theorem pF:zm Tryz.prog (Wz Wj):=
 okC (A:=⟨[VG qF,Oz QO],[],[],0,[],[(11,⟨[5],⟨[.int .i64],[]⟩,[3],[0],[],0,[],⟨[],[]⟩,[]⟩)],[]⟩) (exS:=⟨[.int .i64],[]⟩) Tryz.f80 (memC jQ (memC KG zR)) (by kernel_rfl) (by kernel_rfl) fun x=>by kernel_rfl
theorem JQ:zm Tryz.prog (bF Tp):=
 okC (A:=⟨[yE Nt,Wz Wj],[],[],0,[(4,⟨[10],⟨[.int .i64],[]⟩,[0,8,9],[],[],0,[],⟨[],[]⟩,[]⟩)],[],[]⟩) (exS:=⟨[.int .i64],[]⟩) Tryz.f79 (memC jP (memC pF zR)) (by kernel_rfl) (by kernel_rfl) fun x=>by kernel_rfl
theorem GQ:zm Tryz.prog (YF ZY):=
 okC (A:=⟨[Zt strings_HasPrefix],[],[],0,[],[],[]⟩) (exS:=⟨[.int .i64],[]⟩) Tryz.f118 (memC ZG zR) (by kernel_rfl) (by kernel_rfl) fun x=>by kernel_rfl
theorem aG:zm Tryz.prog (gz Zl):=
 okC (A:=⟨[Bq qR,Pz Jp,wD Bt],[(2,[2]),(3,[1]),(5,[1])],[],1,[],[],[]⟩) (exS:=⟨[.own 1],[(1, .sl 5)]⟩) Tryz.f120 (memC Vu (memC LG (memC UO zR))) (by kernel_rfl) (by kernel_rfl) fun x=>by kernel_rfl
theorem XQ:zm Tryz.prog (mF qf):=
 okC (A:=⟨[Xz Rl,Bq qR,gz Zl],[(6,[2])],[],1,[(2,⟨[0,11],⟨[.own 1420, .int .i64],[(1420, .sl 5)]⟩,[1,2,6,10],[],[],0,[0],⟨[.own 1420],[(1420, .sl 5)]⟩,[1420]⟩)],[(8,⟨[0,11],⟨[.own 1522, .int .i64],[(1522, .sl 5)]⟩,[],[],[],0,[],⟨[],[]⟩,[]⟩)],[]⟩) (exS:=⟨[.own 1],[(1, .sl 5)]⟩) Tryz.f117 (memC rF (memC Vu (memC aG zR))) (by kernel_rfl) (by kernel_rfl) fun x=>by kernel_rfl
theorem FQ:zm Tryz.prog (XF Bu):=
 okC (A:=⟨[],[],[],0,[],[],[]⟩) (exS:=⟨[.optr 0],[(0, .row 149)]⟩) Tryz.f123 zR (by kernel_rfl) (by kernel_rfl) fun x=>by kernel_rfl
theorem AR:zm Tryz.prog (YG Z5):=
 okC (A:=⟨[xD Dt,LD uq,DC Tk],[(2,[1]),(6,[1])],[],1,[],[(3,⟨[0,1],⟨[.own 2044, .int .i64],[(2044, .sl 5)]⟩,[2],[],[],0,[],⟨[],[]⟩,[]⟩),(9,⟨[0],⟨[.own 2147],[(2147, .sl 5)]⟩,[],[],[],0,[],⟨[],[]⟩,[]⟩)],[]⟩) (exS:=⟨[.own 1],[(1, .sl 5)]⟩) Tryz.f121 (memC VO (memC wN (memC UL zR))) (by kernel_rfl) (by kernel_rfl) fun x=>by kernel_rfl
theorem WQ:zm Tryz.prog (lF Gp):=
 okC (A:=⟨[YF ZY,mF qf,qI strings_IndexByte,gz Zl,YG Z5,pz QV,Zt strings_HasPrefix,XF Bu],[(5,[7]),(7,[1]),(12,[1]),(14,[1]),(20,[2]),(22,[1]),(30,[2]),(32,[1]),(38,[4])],[],1,[(16,⟨[0,67],⟨[.own 1837, .int .i64],[(1837, .sl 5)]⟩,[3,4,65,66],[1,4],[],1,[0],⟨[.own 1837],[(1837, .sl 5)]⟩,[1837]⟩),(26,⟨[0,93],⟨[.own 1941, .int .i64],[(1941, .sl 5)]⟩,[3,4,91,92],[1,3],[],3,[0],⟨[.own 1941],[(1941, .sl 5)]⟩,[1941]⟩)],[(12,⟨[5],⟨[.int .i64],[(0, .sl 5)]⟩,[0,3],[1],[0],0,[],⟨[],[]⟩,[]⟩),(21,⟨[0,67],⟨[.own 1939, .int .i64],[(1939, .sl 5)]⟩,[],[],[],0,[],⟨[],[]⟩,[]⟩),(31,⟨[0,93],⟨[.own 2043, .int .i64],[(2043, .sl 5)]⟩,[],[],[],0,[],⟨[],[]⟩,[]⟩)],[]⟩) (exS:=⟨[.own 1],[(1, .sl 5)]⟩) Tryz.f81 (memC GQ (memC XQ (memC Qy (memC aG (memC AR (memC bG (memC ZG (memC FQ zR)))))))) (by kernel_rfl) (by kernel_rfl) fun x=>by kernel_rfl
theorem kR:zm Tryz.prog (pG Z9):=
 okC (A:=⟨[],[],[],0,[(4,⟨[13],⟨[.int .i64],[]⟩,[0,1,12],[],[],0,[],⟨[],[]⟩,[]⟩)],[],[]⟩) (exS:=⟨[.bool],[]⟩) Tryz.f82 zR (by kernel_rfl) (by kernel_rfl) fun x=>by kernel_rfl
theorem IQ:zm Tryz.prog (aF Rp):=
 okC (A:=⟨[bF Tp,Wz Wj,lF Gp,Su qa,pG Z9],[(24,[5])],[],0,[(7,⟨[5,6,7],⟨[.own 2254, .own 2255, .int .i64],[(2254, .sl 5),(2255, .sl 119)]⟩,[0],[],[],0,[5],⟨[.own 2254],[(2254, .sl 5)]⟩,[2254]⟩),(11,⟨[9,36],⟨[.own 1835, .int .i64],[(1835, .sl 5)]⟩,[5,6,7,8,34,35],[2254,2255],[],2,[9],⟨[.own 1835],[(1835, .sl 5)]⟩,[1835]⟩)],[(17,⟨[5,6,7,9],⟨[.own 2254, .own 2255, .int .i64, .own 2357],[(2254, .sl 5),(2255, .sl 119),(2357, .sl 5)]⟩,[8],[],[2254,2255],0,[],⟨[],[]⟩,[]⟩),(21,⟨[5,6,7],⟨[.own 2254, .own 2255, .int .i64],[(2254, .sl 5),(2255, .sl 119),(2358, .row 119)]⟩,[9,12],[2357],[2254,2255,2358],0,[],⟨[],[]⟩,[]⟩),(24,⟨[5,6,7],⟨[.own 2462, .own 2255, .int .i64],[(2255, .sl 119),(2462, .sl 5)]⟩,[],[2358],[2255],0,[],⟨[],[]⟩,[]⟩)],[]⟩) (exS:=⟨[.str, .int .i64],[]⟩) Tryz.f46 (memC JQ (memC pF (memC WQ (memC az (memC kR zR))))) (by kernel_rfl) (by kernel_rfl) fun x=>by kernel_rfl
theorem LF:zm Tryz.prog (Cz Wi):=
 okC (A:=⟨[Qb zH,UG qg,aF Rp],[],[],0,[],[],[]⟩) (exS:=⟨[.str, .int .i64],[]⟩) Tryz.f20 (memC Qq (memC iQ (memC IQ zR))) (by kernel_rfl) (by kernel_rfl) fun x=>by kernel_rfl
theorem oF:zm Tryz.prog (Vz qV):=
 okC (A:=⟨[Qb zH,ol Zr],[],[],0,[],[],[]⟩) (exS:=⟨[.int .i64, .int .i64],[]⟩) Tryz.f26 (memC Qq (memC KF zR)) (by kernel_rfl) (by kernel_rfl) fun x=>by kernel_rfl
theorem JG:zm Tryz.prog (Nz Qg):=
 okC (A:=⟨[Su qa,Ps parseF,Cz Wi,Vz qV],[],[],0,[],[],[]⟩) (exS:=⟨[.str, .int .i64, .bool],[]⟩) Tryz.f31 (memC az (memC jw (memC LF (memC oF zR)))) (by kernel_rfl) (by kernel_rfl) fun x=>by kernel_rfl
theorem UQ:zm Tryz.prog (jF Yl):=
 okC (A:=⟨[Nz Qg,Su qa,Ps parseF],[],[],0,[],[],[]⟩) (exS:=⟨[.bool],[]⟩) Tryz.f24 (memC JG (memC az (memC jw zR))) (by kernel_rfl) (by kernel_rfl) fun x=>by kernel_rfl
theorem mR:zm Tryz.prog (rG Z8):=
 okC (A:=⟨[],[],[],0,[],[],[]⟩) (exS:=⟨[.own 0],[(0, .sl 49)]⟩) Tryz.f98 zR (by kernel_rfl) (by kernel_rfl) fun x=>by kernel_rfl
theorem pO(qz:List zg->Option (List zg))(hs:zm Tryz.prog (ll qz)):zm Tryz.prog (ll (Eu qz)):=
 okC (A:=⟨[rG Z8,ll qz],[],[],0,[(3,⟨[8],⟨[.int .i64],[(0, .sl 49)]⟩,[0,2,7],[],[0],0,[],⟨[],[(0, .sl 49)]⟩,[0]⟩)],[],[]⟩) (exS:=⟨[.sl 49],[]⟩) Tryz.f67 (memC mR (memC hs zR)) (by kernel_rfl) (by kernel_rfl) fun x=>by kernel_rfl
theorem JF:zm Tryz.prog (ll qz):=
 zm.recE (I:=I) (P:=Tryz.prog) (f:=67) (inS:=⟨[.sl 49],[]⟩) (cst:=[]) (outS:=⟨[.sl 49],[]⟩) (k:=0) (Eu) (by kernel_rfl) (fun S h=>pO S h)
theorem EQ:zm Tryz.prog (WF qW):=
 okC (A:=⟨[Qb zH,ll qz],[(12,[7]),(15,[5])],[],0,[(9,⟨[7,8,24],⟨[.own 2464, .int .i64, .int .i64],[(2464, .sl 23)]⟩,[0,1,4,5,22,23],[],[],0,[7,8],⟨[.own 2464, .int .i64],[(2464, .sl 23)]⟩,[2464]⟩)],[(14,⟨[7,8,24],⟨[.own 2566, .int .i64, .int .i64],[(2566, .sl 23)]⟩,[],[],[],0,[],⟨[],[]⟩,[]⟩)],[]⟩) (exS:=⟨[.sl 23, .int .i64],[]⟩) Tryz.f28 (memC Qq (memC JF zR)) (by kernel_rfl) (by kernel_rfl) fun x=>by kernel_rfl
theorem SQ:zm Tryz.prog (gF Xl):=
 okC (A:=⟨[],[],[],1,[],[],[]⟩) (exS:=⟨[.bool],[]⟩) Tryz.f68 zR (by kernel_rfl) (by kernel_rfl) fun x=>by kernel_rfl
theorem yO:zm Tryz.prog (vE Sl):=
 okC (A:=⟨[Qb zH,gF Xl,ll qz],[],[],0,[(6,⟨[6],⟨[.int .i64],[]⟩,[1,2,3,5,7],[0],[],0,[6],⟨[.int .i64],[]⟩,[]⟩),(8,⟨[7],⟨[.int .i64],[]⟩,[1,2,3,5,6],[0],[],2,[7],⟨[.int .i64],[]⟩,[]⟩)],[],[]⟩) (exS:=⟨[.sl 49, .int .i64],[]⟩) Tryz.f29 (memC Qq (memC SQ (memC JF zR))) (by kernel_rfl) (by kernel_rfl) fun x=>by kernel_rfl
theorem gP:zm Tryz.prog (wE Ul):=
 okC (A:=⟨[Qb zH,fF qg],[],[],0,[],[],[]⟩) (exS:=⟨[.sl 44, .int .i64],[]⟩) Tryz.f18 (memC Qq (memC IG zR)) (by kernel_rfl) (by kernel_rfl) fun x=>by kernel_rfl
theorem TQ:zm Tryz.prog (iF ZN):=
 okC (A:=⟨[],[],[],0,[(3,⟨[4],⟨[.int .i64],[(0, .sl 44)]⟩,[0,2,3],[],[0],0,[],⟨[],[(0, .sl 44)]⟩,[0]⟩)],[],[]⟩) (exS:=⟨[.own 0],[(0, .sl 44)]⟩) Tryz.f30 zR (by kernel_rfl) (by kernel_rfl) fun x=>by kernel_rfl
theorem GR:zm Tryz.prog (yQ dz):=
 okC (A:=⟨[Ps parseF,iF ZN,JD parseFo,Vz qV,Nz Qg,WF qW,Qb zH,vE Sl,wE Ul,Cz Wi,jF Yl],[(20,[1]),(21,[1]),(22,[1]),(23,[1]),(24,[1]),(27,[2]),(28,[1]),(29,[1]),(30,[1]),(31,[1]),(32,[2])],[(6,[(1,none)])],0,[(3,⟨[2],⟨[.int .i64],[(0, .sl 44)]⟩,[0,1],[],[0],0,[],⟨[],[(0, .sl 44)]⟩,[0]⟩)],[],[]⟩) (exS:=⟨[.bool],[]⟩) Tryz.f6 (memC jw (memC TQ (memC tN (memC oF (memC JG (memC EQ (memC Qq (memC yO (memC gP (memC LF (memC UQ zR))))))))))) (by kernel_rfl) (by kernel_rfl) fun x=>by kernel_rfl
end Go.Lv.VT
end
