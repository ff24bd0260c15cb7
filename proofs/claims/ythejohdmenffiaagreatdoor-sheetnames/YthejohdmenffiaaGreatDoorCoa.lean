/- Contracts. -/
import Derived.Test.YthejohdmenffiaaGreatDoorTx
import Derived.Test.YthejohdmenffiaaGreatDoorIp
import Derived.Test.YthejohdmenffiaaGreatDoorLf
import Derived.Test.YthejohdmenffiaaGreatDoorPa
noncomputable section
set_option linter.unusedSimpArgs false
set_option linter.unusedVariables false
namespace Go.Lv.VT
set_option maxRecDepth 100000
open Go.Proofs
theorem alt2 {T U V W:Type} {A B:T->Option U} {t:Option V} {c:V->Bool} {p:V->Option W} {d:W->Bool} {x:T} {y:U}
  (h:(zb t fun v=>bif c v then zb (A x) fun z=>some z else zb (p v) fun w=>bif d w then zb (A x) fun z=>some z else zb (B x) fun z=>some z)=some y): ∃n:Bool,(cond n A B) x=some y:=by
 have key: ∀o:Option U,zb o (fun z=>some z)=some y->o=some y:=fun o=>by cases o<;>exact id
 cases t with
 |none=>cases h
 |some v=>
  replace h:(bif c v then zb (A x) fun z=>some z else zb (p v) fun w=>bif d w then zb (A x) fun z=>some z else zb (B x) fun z=>some z)=some y:=h;cases hc:c v<;>rw[hc]at h
  ·replace h:(zb (p v) fun w=>bif d w then zb (A x) fun z=>some z else zb (B x) fun z=>some z)=some y:=h;cases hp:p v with
   |none=>rw[hp]at h;cases h
   |some w=>
    rw[hp]at h;replace h:(bif d w then zb (A x) fun z=>some z else zb (B x) fun z=>some z)=some y:=h;cases hd:d w<;>rw[hd]at h
    ·exact⟨false,key _ h⟩
    ·exact⟨true,key _ h⟩
  ·exact⟨true,key _ h⟩
theorem okC{con:Con I}{A:Env0 I}{exS:StSh}(f:Go.Func)(hS: ∀c∈A.S,zx Tryz.prog c)(hf:Tryz.prog.funcs[con.f]? =some f)(h:chk con A f=true)(he: ∀x,evF2 A T FK f.ntmps (rsl f) (body f) con exS x=con.F x):zx Tryz.prog con:=
 okC0 mixed ipOK tok rfl rfl hS hf h he
def JA(F:Str×Str->Option Bool):Con I:=⟨150,⟨[.str, .str],[]⟩,[],⟨[.bool],[]⟩,0,F⟩
def Z5(F:Str×Str->Option Bool):Con I:=⟨99,⟨[.str, .str],[]⟩,[],⟨[.bool],[]⟩,0,F⟩
def vH(F:za->Option za):Con I:=⟨131,⟨[.optr 0],[(0, .row 199)]⟩,[],⟨[],[(0, .row 199)]⟩,0,F⟩
def zR(F:Int×za->Option Int):Con I:=⟨181,⟨[.optr 0, .int .i64],[(0, .row 199)]⟩,[0],⟨[.int .i64],[]⟩,0,F⟩
def si(F:Int->Option Bool):Con I:=⟨182,⟨[.int .i64],[]⟩,[],⟨[.bool],[]⟩,0,F⟩
def Q5(F:za->Option za):Con I:=⟨183,⟨[.optr 0, .clo 182 []],[(0, .row 199)]⟩,[],⟨[],[(0, .row 199)]⟩,0,F⟩
def BI(F:Int->Option (List UInt8)):Con I:=⟨334,⟨[.nilv, .int .i32],[]⟩,[],⟨[.own 0],[(0, .sl 5)]⟩,1,F⟩
def MH(F:Int->Option (List UInt8)):Con I:=⟨297,⟨[.nilv, .int .i32],[]⟩,[],⟨[.own 0],[(0, .sl 5)]⟩,1,F⟩
def Ym(F:Int×Int×Int->Option Bool):Con I:=⟨299,⟨[.int .i64, .int .i64, .int .i64],[]⟩,[],⟨[.bool],[]⟩,0,F⟩
def ui(F:Int->Option Bool):Con I:=⟨240,⟨[.int .i64],[]⟩,[],⟨[.bool],[]⟩,0,F⟩
def Fw(F:Int->Option Int):Con I:=⟨298,⟨[.int .i64],[]⟩,[],⟨[.int .i64],[]⟩,0,F⟩
def RI(F:za->Option (za×List UInt8)):Con I:=⟨238,⟨[.optr 0, .nilv],[(0, .row 199)]⟩,[],⟨[.own 1],[(0, .row 199),(1, .sl 5)]⟩,1,F⟩
def yH(F:Int×List UInt8->Option (List UInt8)):Con I:=⟨334,⟨[.own 0, .int .i32],[(0, .sl 5)]⟩,[],⟨[.own 1],[(1, .sl 5)]⟩,1,F⟩
def LH(F:Int×List UInt8->Option (List UInt8)):Con I:=⟨297,⟨[.own 0, .int .i32],[(0, .sl 5)]⟩,[],⟨[.own 1],[(1, .sl 5)]⟩,1,F⟩
def qU(F:za×List UInt8->Option (za×List UInt8)):Con I:=⟨238,⟨[.optr 0, .own 1],[(0, .row 199),(1, .sl 5)]⟩,[],⟨[.own 2],[(0, .row 199),(2, .sl 5)]⟩,1,F⟩
def VH(F:za->Option (zq×za)):Con I:=⟨184,⟨[.optr 0],[(0, .row 199)]⟩,[],⟨[.val 128],[(0, .row 199)]⟩,0,F⟩
def Ny(F:Int->Option Bool):Con I:=⟨239,⟨[.int .i64],[]⟩,[],⟨[.bool],[]⟩,0,F⟩
def Gy(F:Int->Option Bool):Con I:=⟨185,⟨[.int .i64],[]⟩,[],⟨[.bool],[]⟩,0,F⟩
def ZP(F:Int×za->Option Bool):Con I:=⟨186,⟨[.optr 0, .int .i64],[(0, .row 199)]⟩,[0],⟨[.bool],[]⟩,0,F⟩
def AA(F:Int×za->Option Bool):Con I:=⟨187,⟨[.optr 0, .int .i64],[(0, .row 199)]⟩,[0],⟨[.bool],[]⟩,0,F⟩
def Lr(F:za->Option (Str×za)):Con I:=⟨188,⟨[.optr 0],[(0, .row 199)]⟩,[],⟨[.str],[(0, .row 199)]⟩,0,F⟩
def WH(F:za->Option Bool):Con I:=⟨189,⟨[.optr 0],[(0, .row 199)]⟩,[0],⟨[.bool],[]⟩,0,F⟩
def nH(F:za->Option za):Con I:=⟨183,⟨[.optr 0, .clo 240 []],[(0, .row 199)]⟩,[],⟨[],[(0, .row 199)]⟩,0,F⟩
def rH(F:za->Option (Bool×za)):Con I:=⟨241,⟨[.optr 0],[(0, .row 199)]⟩,[],⟨[.bool],[(0, .row 199)]⟩,0,F⟩
def NH(F:Str->Option Int):Con I:=⟨242,⟨[.str],[]⟩,[],⟨[.int .i64],[]⟩,0,F⟩
def oH(F:za->Option (zq×za)):Con I:=⟨190,⟨[.optr 0],[(0, .row 199)]⟩,[],⟨[.val 128],[(0, .row 199)]⟩,0,F⟩
def Z0(F:Str->Option Str):Con I:=⟨78,⟨[.str],[]⟩,[],⟨[.str],[]⟩,0,F⟩
def Q0(F:Str×Str->Option Bool):Con I:=⟨209,⟨[.str, .str],[]⟩,[],⟨[.bool],[]⟩,0,F⟩
def PH(F:za->Option (zq×za)):Con I:=⟨303,⟨[.optr 0],[(0, .row 199)]⟩,[],⟨[.val 128],[(0, .row 199)]⟩,0,F⟩
def OH(F:za->Option (zq×za)):Con I:=⟨243,⟨[.optr 0],[(0, .row 199)]⟩,[],⟨[.val 128],[(0, .row 199)]⟩,0,F⟩
def aH(F:za->Option (zq×za)):Con I:=⟨191,⟨[.optr 0],[(0, .row 199)]⟩,[],⟨[.val 128],[(0, .row 199)]⟩,0,F⟩
def Z6(F:Str×Int->Option Int):Con I:=⟨84,⟨[.str, .int .u8],[]⟩,[],⟨[.int .i64],[]⟩,0,F⟩
def yG(F:za->Option (zq×za)):Con I:=⟨132,⟨[.optr 0],[(0, .row 199)]⟩,[],⟨[.val 128],[(0, .row 199)]⟩,0,F⟩
def oG(F:(zq×Int×Int)×List zq->Option (List zq)):Con I:=⟨74,⟨[.val 128, .int .i64, .int .i64, .optr 0],[(0, .cells 91 [.own 1]),(1, .sl 128)]⟩,[],⟨[],[(0, .cells 91 [.own 2]),(2, .sl 128)]⟩,1,F⟩
def oF(F:Str->Option (Int×List zq)):Con I:=⟨73,⟨[.str, .clo 74 [0]],[(0, .cells 91 [.nilv])]⟩,[],⟨[.int .i64],[(0, .cells 91 [.own 1]),(1, .sl 128)]⟩,1,F⟩
def Hy(F:Str->Option (List zq×Int)):Con I:=⟨40,⟨[.str],[]⟩,[],⟨[.sl 128, .int .i64],[]⟩,0,F⟩
def bE(F:List ze->Option Int):Con I:=⟨77,⟨[.sl 132],[]⟩,[],⟨[.int .u8],[]⟩,0,F⟩
def EH(F:Int×List UInt8->Option Int):Con I:=⟨192,⟨[.own 0, .int .u8],[(0, .sl 5)]⟩,[0],⟨[.int .i64],[]⟩,0,F⟩
def tH(F:Int×List UInt8->Option Bool):Con I:=⟨135,⟨[.own 0, .int .u8],[(0, .sl 5)]⟩,[0],⟨[.bool],[]⟩,0,F⟩
def IG(F:ze×List UInt8->Option Bool):Con I:=⟨134,⟨[.val 132, .optr 0],[(0, .cells 42 [.own 1]),(1, .sl 5)]⟩,[0,1],⟨[.bool],[]⟩,0,F⟩
def xH(F:List ze×List UInt8->Option Int):Con I:=⟨133,⟨[.sl 132, .clo 134 [0]],[(0, .cells 42 [.own 1]),(1, .sl 5)]⟩,[0,1],⟨[.int .i64],[]⟩,0,F⟩
def pE(F:List ze×List UInt8->Option (List ze×List ze)):Con I:=⟨79,⟨[.sl 132, .own 0],[(0, .sl 5)]⟩,[0],⟨[.sl 132, .sl 132],[]⟩,0,F⟩
def gq(F:Int->Option Int):Con I:=⟨76,⟨[.int .u8],[]⟩,[],⟨[.int .u8],[]⟩,0,F⟩
def Xi(F:List ze×Int->Option zP):Con I:=⟨90,⟨[.sl 132, .int .u8],[]⟩,[],⟨[.val 161],[]⟩,0,F⟩
def Lg(F:List ze->Option Int):Con I:=⟨89,⟨[.sl 132],[]⟩,[],⟨[.int .i64],[]⟩,0,F⟩
def qa(F:Int×zh->Option zq):Con I:=⟨345,⟨[.optr 0, .int .i64],[(0, .row 368)]⟩,[0],⟨[.val 128],[]⟩,0,F⟩
def Qv(F:zh->Option (Bool×zh)):Con I:=⟨343,⟨[.optr 0],[(0, .row 368)]⟩,[],⟨[.bool],[(0, .row 368)]⟩,0,F⟩
def Q3(F:Str×zh->Option (Bool×zh)):Con I:=⟨346,⟨[.optr 0, .str],[(0, .row 368)]⟩,[],⟨[.bool],[(0, .row 368)]⟩,0,F⟩
def eH(F:zh->Option (Int×zh)):Con I:=⟨344,⟨[.optr 0],[(0, .row 368)]⟩,[],⟨[.int .u8],[(0, .row 368)]⟩,0,F⟩
def dH(F:Int×zh->Option (List ze)):Con I:=⟨369,⟨[.optr 0, .int .i64],[(0, .row 368)]⟩,[0],⟨[.sl 132],[]⟩,0,F⟩
def Yz(F:zh->Option Bool):Con I:=⟨348,⟨[.optr 0],[(0, .row 368)]⟩,[0],⟨[.bool],[]⟩,0,F⟩
def tF(F:List ze->Option (zA×Bool)):Con I:=⟨368,⟨[.sl 132],[]⟩,[],⟨[.val 153, .bool],[]⟩,0,F⟩
def ry(F:Unit->Option (List Str)):Con I:=⟨386,⟨[],[]⟩,[],⟨[.sl 9],[]⟩,0,F⟩
def Q4(F:List Str×Str->Option Int):Con I:=⟨311,⟨[.sl 9, .str],[]⟩,[],⟨[.int .i64],[]⟩,0,F⟩
def sF(F:Str->Option (zA×Bool)):Con I:=⟨370,⟨[.str],[]⟩,[],⟨[.val 153, .bool],[]⟩,0,F⟩
def eG(F:ze->Option Bool):Con I:=⟨397,⟨[.val 132],[]⟩,[],⟨[.bool],[]⟩,0,F⟩
def NI(F:List ze->Option Int):Con I:=⟨133,⟨[.sl 132, .clo 397 []],[]⟩,[],⟨[.int .i64],[]⟩,0,F⟩
def Hr(F:zf×Int->Option (zf×Bool)):Con I:=⟨255,⟨[.val 157, .int .u8],[]⟩,[],⟨[.val 157, .bool],[]⟩,0,F⟩
def Km(F:List ze×List zq->Option (List zq)):Con I:=⟨146,⟨[.own 0, .sl 132],[(0, .sl 128)]⟩,[],⟨[.own 1],[(1, .sl 128)]⟩,1,F⟩
def BF(F:List ze->Option (List zq)):Con I:=⟨146,⟨[.nilv, .sl 132],[]⟩,[],⟨[.own 0],[(0, .sl 128)]⟩,1,F⟩
def Gw(F:List ze->Option (List zq×Int)):Con I:=⟨91,⟨[.sl 132],[]⟩,[],⟨[.sl 128, .int .i64],[]⟩,0,F⟩
def Jy(F:Str×Int->Option Bool):Con I:=⟨257,⟨[.str, .int .i64],[]⟩,[],⟨[.bool],[]⟩,0,F⟩
def uy(F:Str->Option Bool):Con I:=⟨253,⟨[.str],[]⟩,[],⟨[.bool],[]⟩,0,F⟩
def ny(F:Str->Option Bool):Con I:=⟨203,⟨[.str],[]⟩,[],⟨[.bool],[]⟩,0,F⟩
def fG(F:zA->Option (Bool×Bool)):Con I:=⟨254,⟨[.val 153],[]⟩,[],⟨[.bool, .bool],[]⟩,0,F⟩
def ME(F:Int->Option Bool):Con I:=⟨309,⟨[.int .i64],[]⟩,[],⟨[.bool],[]⟩,0,F⟩
def wD(F:VAnb->Option Int):Con I:=⟨258,⟨[.val 151],[]⟩,[],⟨[.int .i64],[]⟩,0,F⟩
def jG(F:zy×zf->Option Bool):Con I:=⟨144,⟨[.val 149, .optr 0],[(0, .row 157)]⟩,[0],⟨[.bool],[]⟩,0,F⟩
def FI(F:List zy×zf->Option Int):Con I:=⟨202,⟨[.sl 149, .clo 144 [0]],[(0, .row 157)]⟩,[0],⟨[.int .i64],[]⟩,0,F⟩
def XI(F:List zy×zf->Option Bool):Con I:=⟨143,⟨[.sl 149, .clo 144 [0]],[(0, .row 157)]⟩,[0],⟨[.bool],[]⟩,0,F⟩
def Az(F:zw×zf×Bool->Option Bool):Con I:=⟨87,⟨[.val 146, .val 157, .bool],[]⟩,[],⟨[.bool],[]⟩,0,F⟩
def rG(F:zw×zf×zA->Option Bool):Con I:=⟨256,⟨[.val 146, .optr 0, .optr 1],[(0, .row 157),(1, .row 153)]⟩,[0,1],⟨[.bool],[]⟩,0,F⟩
def OI(F:List zw×zf×zA->Option Int):Con I:=⟨142,⟨[.sl 146, .clo 256 [0,1]],[(0, .row 157),(1, .row 153)]⟩,[0,1],⟨[.int .i64],[]⟩,0,F⟩
def aI(F:List zw×zf×zA->Option Bool):Con I:=⟨85,⟨[.sl 146, .clo 256 [0,1]],[(0, .row 157),(1, .row 153)]⟩,[0,1],⟨[.bool],[]⟩,0,F⟩
def aG(F:zA×zf->Option Bool):Con I:=⟨204,⟨[.val 153, .val 157],[]⟩,[],⟨[.bool],[]⟩,0,F⟩
def Ze(F:zy×zf->Option Bool):Con I:=⟨145,⟨[.val 149, .val 157],[]⟩,[],⟨[.bool],[]⟩,0,F⟩
def yE(F:zA×List ze×zf->Option (zA×Bool)):Con I:=⟨387,⟨[.val 153, .sl 132, .val 157],[]⟩,[],⟨[.val 153, .bool],[]⟩,0,F⟩
def sG(F:Str×List ze×zf->Option (zA×Bool)):Con I:=⟨371,⟨[.str, .sl 132, .val 157],[]⟩,[],⟨[.val 153, .bool],[]⟩,0,F⟩
def lH(F:zf×zh->Option ((List zA×Bool)×zh)):Con I:=⟨347,⟨[.optr 0, .val 157],[(0, .row 368)]⟩,[],⟨[.sl 153, .bool],[(0, .row 368)]⟩,0,F⟩
def GH(F:List ze×zf×Bool->Option (zw×Bool)):Con I:=⟨304,⟨[.sl 132, .val 157, .bool],[]⟩,[],⟨[.val 146, .bool],[]⟩,0,F⟩
def ZR(F:List ze×zf×Bool×Bool->Option (List zw×Bool)):Con I:=⟨244,⟨[.sl 132, .val 157, .bool, .bool],[]⟩,[],⟨[.sl 146, .bool],[]⟩,0,F⟩
def Aj(F:List zw->Option Int):Con I:=⟨88,⟨[.sl 146],[]⟩,[],⟨[.int .i64],[]⟩,0,F⟩
def dE(F:List ze->Option (List zw×Int)):Con I:=⟨193,⟨[.sl 132],[]⟩,[],⟨[.sl 146, .int .i64],[]⟩,0,F⟩
def FH(F:List ze->Option (List ze)):Con I:=⟨307,⟨[.sl 132],[]⟩,[],⟨[.own 0],[(0, .sl 132)]⟩,1,F⟩
def Wi(F:List ze->Option (List ze)):Con I:=⟨246,⟨[.sl 132],[]⟩,[],⟨[.sl 132],[]⟩,0,F⟩
def Mq(F:List ze×Int->Option (List (List ze)×Int)):Con I:=⟨195,⟨[.sl 132, .int .u8],[]⟩,[],⟨[.sl 31, .int .i64],[]⟩,0,F⟩
def Fg(F:ze×Int->Option Bool):Con I:=⟨97,⟨[.val 132, .int .u8],[]⟩,[],⟨[.bool],[]⟩,0,F⟩
def sD(F:List ze->Option (List ze)):Con I:=⟨306,⟨[.sl 132],[]⟩,[],⟨[.sl 132],[]⟩,0,F⟩
def FE(F:List ze->Option (List ze)):Con I:=⟨305,⟨[.sl 132],[]⟩,[],⟨[.sl 132],[]⟩,0,F⟩
def Hw(F:ze->Option Bool):Con I:=⟨98,⟨[.val 132],[]⟩,[],⟨[.bool],[]⟩,0,F⟩
def CF(F:Int×List ze->Option Bool):Con I:=⟨247,⟨[.int .i64, .optr 0],[(0, .row 31)]⟩,[0],⟨[.bool],[]⟩,0,F⟩
def Kq(F:List ze->Option (List ze×Int)):Con I:=⟨196,⟨[.sl 132],[]⟩,[],⟨[.sl 132, .int .i64],[]⟩,0,F⟩
def IE(F:Str->Option Bool):Con I:=⟨92,⟨[.str],[]⟩,[],⟨[.bool],[]⟩,0,F⟩
def wH(F:Str×Str->Option Str):Con I:=⟨310,⟨[.str, .str],[]⟩,[],⟨[.str],[]⟩,0,F⟩
def BH(F:Str×Str->Option Str):Con I:=⟨259,⟨[.str, .str],[]⟩,[],⟨[.str],[]⟩,0,F⟩
def Tx(F:Int->Option Bool):Con I:=⟨260,⟨[.int .u8],[]⟩,[],⟨[.bool],[]⟩,0,F⟩
def vF(F:Str->Option Bool):Con I:=⟨205,⟨[.str],[]⟩,[],⟨[.bool],[]⟩,0,F⟩
def yF(F:Int->Option Bool):Con I:=⟨261,⟨[.int .u8],[]⟩,[],⟨[.bool],[]⟩,0,F⟩
def iE(F:Int->Option Bool):Con I:=⟨206,⟨[.int .u8],[]⟩,[],⟨[.bool],[]⟩,0,F⟩
def pG(F:Str×Str->Option Bool):Con I:=⟨207,⟨[.str, .str],[]⟩,[],⟨[.bool],[]⟩,0,F⟩
def rD(F:zq->Option Bool):Con I:=⟨147,⟨[.val 128],[]⟩,[],⟨[.bool],[]⟩,0,F⟩
def uF(F:(Int×Int)×List zq->Option Bool):Con I:=⟨208,⟨[.int .i64, .int .u8, .optr 0],[(0, .row 91)]⟩,[0],⟨[.bool],[]⟩,0,F⟩
def fE(F:List zq->Option Int):Con I:=⟨148,⟨[.sl 128],[]⟩,[],⟨[.int .i64],[]⟩,0,F⟩
def EE(F:List zq->Option Int):Con I:=⟨93,⟨[.sl 128],[]⟩,[],⟨[.int .i64],[]⟩,0,F⟩
def bG(F:ze->Option Bool):Con I:=⟨149,⟨[.val 132],[]⟩,[],⟨[.bool],[]⟩,0,F⟩
def MI(F:List ze->Option Int):Con I:=⟨133,⟨[.sl 132, .clo 149 []],[]⟩,[],⟨[.int .i64],[]⟩,0,F⟩
def GI(F:List ze->Option Bool):Con I:=⟨95,⟨[.sl 132, .clo 149 []],[]⟩,[],⟨[.bool],[]⟩,0,F⟩
def Qz(F:List ze->Option Bool):Con I:=⟨94,⟨[.sl 132],[]⟩,[],⟨[.bool],[]⟩,0,F⟩
def wF(F:ze->Option Bool):Con I:=⟨96,⟨[.val 132],[]⟩,[],⟨[.bool],[]⟩,0,F⟩
def KI(F:List ze->Option Int):Con I:=⟨133,⟨[.sl 132, .clo 96 []],[]⟩,[],⟨[.int .i64],[]⟩,0,F⟩
def YI(F:List ze->Option Bool):Con I:=⟨95,⟨[.sl 132, .clo 96 []],[]⟩,[],⟨[.bool],[]⟩,0,F⟩
def Oq(F:zV->Option Int):Con I:=⟨50,⟨[.val 33],[]⟩,[],⟨[.int .i64],[]⟩,0,F⟩
def bv(F:List ze->Option (zV×Bool)):Con I:=⟨245,⟨[.sl 132],[]⟩,[],⟨[.val 33, .bool],[]⟩,0,F⟩
def GD(F:List ze->Option (List zV×Int)):Con I:=⟨194,⟨[.sl 132],[]⟩,[],⟨[.sl 33, .int .i64],[]⟩,0,F⟩
def rE(F:List ze×List ze->Option (zL×Bool)):Con I:=⟨136,⟨[.sl 132, .sl 132],[]⟩,[],⟨[.val 39, .bool],[]⟩,0,F⟩
def xy(F:Str->Option Bool):Con I:=⟨83,⟨[.str],[]⟩,[],⟨[.bool],[]⟩,0,F⟩
def SI(F:List Str->Option Int):Con I:=⟨140,⟨[.own 0, .clo 83 []],[(0, .sl 9)]⟩,[0],⟨[.int .i64],[]⟩,0,F⟩
def JI(F:List Str->Option Bool):Con I:=⟨82,⟨[.own 0, .clo 83 []],[(0, .sl 9)]⟩,[0],⟨[.bool],[]⟩,0,F⟩
def uE(F:List Str->Option Bool):Con I:=⟨45,⟨[.own 0],[(0, .sl 9)]⟩,[0],⟨[.bool],[]⟩,0,F⟩
def YE(F:List ze->Option (List Str×Bool)):Con I:=⟨197,⟨[.sl 132],[]⟩,[],⟨[.sl 9, .bool],[]⟩,0,F⟩
def Oy(F:List ze×Bool->Option (zL×Bool)):Con I:=⟨137,⟨[.sl 132, .bool],[]⟩,[],⟨[.val 39, .bool],[]⟩,0,F⟩
def Qj(F:zm->Option Int):Con I:=⟨248,⟨[.optr 0],[(0, .row 251)]⟩,[0],⟨[.int .u8],[]⟩,0,F⟩
def Qk(F:zm->Option (ze×zm)):Con I:=⟨249,⟨[.optr 0],[(0, .row 251)]⟩,[],⟨[.val 132],[(0, .row 251)]⟩,0,F⟩
def Qs(F:zm->Option (Bool×zm)):Con I:=⟨198,⟨[.optr 0],[(0, .row 251)]⟩,[],⟨[.bool],[(0, .row 251)]⟩,0,F⟩
def Ir(F:List Str×zm->Option (Str×zm)):Con I:=⟨250,⟨[.optr 0, .sl 9],[(0, .row 251)]⟩,[],⟨[.str],[(0, .row 251)]⟩,0,F⟩
def kH(F:List Str×Str->Option Bool):Con I:=⟨262,⟨[.sl 9, .str],[]⟩,[],⟨[.bool],[]⟩,0,F⟩
def Sy(F:Str->Option Bool):Con I:=⟨210,⟨[.str],[]⟩,[],⟨[.bool],[]⟩,0,F⟩
def BG(F:List Int->Option Int):Con I:=⟨263,⟨[.sl 2],[]⟩,[],⟨[.int .i64],[]⟩,0,F⟩
def Ry(F:Int->Option Int):Con I:=⟨211,⟨[.int .i64],[]⟩,[],⟨[.int .i64],[]⟩,0,F⟩
def fH(F:zm->Option ((zt×Bool)×zm)):Con I:=⟨251,⟨[.optr 0],[(0, .row 251)]⟩,[],⟨[.val 36, .bool],[(0, .row 251)]⟩,0,F⟩
def JH(F:zm->Option ((zt×Bool)×zm)):Con I:=⟨199,⟨[.optr 0],[(0, .row 251)]⟩,[],⟨[.val 36, .bool],[(0, .row 251)]⟩,0,F⟩
def Ux(F:List ze->Option (zt×Int)):Con I:=⟨138,⟨[.sl 132],[]⟩,[],⟨[.val 36, .int .i64],[]⟩,0,F⟩
def aD(F:List ze->Option (zV×Bool×Int)):Con I:=⟨308,⟨[.sl 132],[]⟩,[],⟨[.val 33, .bool, .int .i64],[]⟩,0,F⟩
def uG(F:zm->Option ((zt×Bool)×zm)):Con I:=⟨252,⟨[.optr 0],[(0, .row 251)]⟩,[],⟨[.val 36, .bool],[(0, .row 251)]⟩,0,F⟩
def Ql(F:zm->Option ((zt×Bool)×zm)):Con I:=⟨200,⟨[.optr 0],[(0, .row 251)]⟩,[],⟨[.val 36, .bool],[(0, .row 251)]⟩,0,F⟩
def Nq(F:List ze->Option (Int×Int)):Con I:=⟨49,⟨[.sl 132],[]⟩,[],⟨[.int .i64, .int .i64],[]⟩,0,F⟩
def Rl(F:zt->Option Bool):Con I:=⟨103,⟨[.val 36],[]⟩,[],⟨[.bool],[]⟩,0,F⟩
def uD(F:zt->Option Bool):Con I:=⟨154,⟨[.val 36],[]⟩,[],⟨[.bool],[]⟩,0,F⟩
def Ol(F:zt×Int->Option ((Int×Bool)×Int)):Con I:=⟨104,⟨[.val 36, .optr 0],[(0, .row 3)]⟩,[],⟨[.int .i64, .bool],[(0, .row 3)]⟩,0,F⟩
def nz(F:zt->Option Int):Con I:=⟨54,⟨[.val 36],[]⟩,[],⟨[.int .i64],[]⟩,0,F⟩
def wy(F:List ze->Option (zt×Int)):Con I:=⟨139,⟨[.sl 132],[]⟩,[],⟨[.val 36, .int .i64],[]⟩,0,F⟩
def bH(F:(Bool×Str×List ze)×zo->Option ((zL×Bool)×zo)):Con I:=⟨80,⟨[.optr 0, .bool, .str, .sl 132, .nilp],[(0, .row 72)]⟩,[],⟨[.val 39, .bool],[(0, .row 72)]⟩,0,F⟩
def RH(F:(Bool×Str×List ze×ze)×zo->Option ((zL×Bool)×zo)):Con I:=⟨80,⟨[.optr 0, .bool, .str, .sl 132, .ptr 132],[(0, .row 72)]⟩,[],⟨[.val 39, .bool],[(0, .row 72)]⟩,0,F⟩
def ZN(F:(List ze×Bool)×zo->Option (List zL×zo)):Con I:=⟨42,⟨[.optr 0, .sl 132, .bool],[(0, .row 72)]⟩,[],⟨[.sl 39],[(0, .row 72)]⟩,0,F⟩
def Uw(F:Str->Option (List zL×Int)):Con I:=⟨22,⟨[.str],[]⟩,[],⟨[.sl 39, .nilp, .int .i64],[]⟩,0,F⟩
def jN(F:Str->Option (Qi×Int)):Con I:=⟨7,⟨[.str],[]⟩,[],⟨[.val 25, .int .i64],[]⟩,0,F⟩
def Iy(F:Str->Option ((List zL×Int)×zo)):Con I:=⟨22,⟨[.str],[]⟩,[],⟨[.sl 39, .optr 0, .int .i64],[(0, .row 72)]⟩,1,F⟩
def oO(F:Str->Option (Qi×Int)):Con I:=⟨7,⟨[.str],[]⟩,[],⟨[.val 25, .int .i64],[]⟩,0,F⟩
def rq(F:Str->Option (Qi×Int)):Con I:=⟨7,⟨[.str],[]⟩,[],⟨[.val 25, .int .i64],[]⟩,0,F⟩
def DI(F:List Str->Option Int):Con I:=⟨140,⟨[.sl 9, .clo 83 []],[]⟩,[],⟨[.int .i64],[]⟩,0,F⟩
def VI(F:List Str->Option Bool):Con I:=⟨82,⟨[.sl 9, .clo 83 []],[]⟩,[],⟨[.bool],[]⟩,0,F⟩
def dG(F:List Str->Option Bool):Con I:=⟨45,⟨[.sl 9],[]⟩,[],⟨[.bool],[]⟩,0,F⟩
def pF(F:List Str->Option Bool):Con I:=⟨44,⟨[.sl 9],[]⟩,[],⟨[.bool],[]⟩,0,F⟩
def EI(F:List (List Str)->Option Int):Con I:=⟨81,⟨[.sl 74, .clo 44 []],[]⟩,[],⟨[.int .i64],[]⟩,0,F⟩
def WI(F:List (List Str)->Option Bool):Con I:=⟨43,⟨[.sl 74, .clo 44 []],[]⟩,[],⟨[.bool],[]⟩,0,F⟩
def En(F:List zw->Option Int):Con I:=⟨46,⟨[.sl 146],[]⟩,[],⟨[.int .i64],[]⟩,0,F⟩
def kG(F:zw->Option Bool):Con I:=⟨86,⟨[.val 146],[]⟩,[],⟨[.bool],[]⟩,0,F⟩
def II(F:List zw->Option Int):Con I:=⟨142,⟨[.sl 146, .clo 86 []],[]⟩,[],⟨[.int .i64],[]⟩,0,F⟩
def UI(F:List zw->Option Bool):Con I:=⟨85,⟨[.sl 146, .clo 86 []],[]⟩,[],⟨[.bool],[]⟩,0,F⟩
def gG(F:List zw->Option Int):Con I:=⟨47,⟨[.sl 146],[]⟩,[],⟨[.int .i64],[]⟩,0,F⟩
def vE(F:zt->Option Bool):Con I:=⟨48,⟨[.val 36],[]⟩,[],⟨[.bool],[]⟩,0,F⟩
def Jm(F:zt->Option Int):Con I:=⟨51,⟨[.val 36],[]⟩,[],⟨[.int .i64],[]⟩,0,F⟩
def JE(F:zt->Option Bool):Con I:=⟨152,⟨[.val 36],[]⟩,[],⟨[.bool],[]⟩,0,F⟩
def KE(F:zt->Option Bool):Con I:=⟨153,⟨[.val 36],[]⟩,[],⟨[.bool],[]⟩,0,F⟩
def vD(F:zt->Option Bool):Con I:=⟨102,⟨[.val 36],[]⟩,[],⟨[.bool],[]⟩,0,F⟩
def KH(F:zt->Option Bool):Con I:=⟨101,⟨[.val 36],[]⟩,[],⟨[.bool],[]⟩,0,F⟩
def sH(F:List zt->Option Int):Con I:=⟨151,⟨[.sl 36, .clo 101 []],[]⟩,[],⟨[.int .i64],[]⟩,0,F⟩
def PI(F:List zt->Option Bool):Con I:=⟨100,⟨[.sl 36, .clo 101 []],[]⟩,[],⟨[.bool],[]⟩,0,F⟩
def lG(F:zt->Option Int):Con I:=⟨52,⟨[.val 36],[]⟩,[],⟨[.int .i64],[]⟩,0,F⟩
def Yl(F:zt->Option Int):Con I:=⟨53,⟨[.val 36],[]⟩,[],⟨[.int .i64],[]⟩,0,F⟩
def bi(F:List zL->Option zB):Con I:=⟨23,⟨[.sl 39],[]⟩,[],⟨[.val 69],[]⟩,0,F⟩
def wE(F:List zL->Option Int):Con I:=⟨24,⟨[.sl 39],[]⟩,[],⟨[.int .i64],[]⟩,0,F⟩
def fq(F:Qi->Option Int):Con I:=⟨10,⟨[.val 25],[]⟩,[],⟨[.int .i64],[]⟩,0,F⟩
def Py(F:Str×List UInt8->Option Bool):Con I:=⟨6,⟨[.str, .sl 5],[]⟩,[],⟨[.bool],[]⟩,0,F⟩
def xE(F:Qi->Option (Int×Int)):Con I:=⟨8,⟨[.val 25],[]⟩,[],⟨[.int .i64, .int .i64],[]⟩,0,F⟩
def iN(F:Str->Option (zL×Int)):Con I:=⟨9,⟨[.str],[]⟩,[],⟨[.val 39, .int .i64],[]⟩,0,F⟩
def nO(F:Str->Option (zL×Int)):Con I:=⟨9,⟨[.str],[]⟩,[],⟨[.val 39, .int .i64],[]⟩,0,F⟩
def rF(F:Str->Option (zL×Int)):Con I:=⟨9,⟨[.str],[]⟩,[],⟨[.val 39, .int .i64],[]⟩,0,F⟩
def DF(F:Unit->Option Bool):Con I:=⟨11,⟨[],[]⟩,[],⟨[.bool],[]⟩,0,F⟩
def BR(F:Unit->Option Bool):Con I:=⟨3,⟨[],[]⟩,[],⟨[.bool],[]⟩,0,F⟩
def lC(F:Str->Option (Str×Int)):Con I:=⟨130,⟨[.str],[]⟩,[],⟨[.str, .int .i64],[]⟩,0,F⟩
theorem dL:zx Tryz.prog (lC xh):=DL
def FD(F:Str×Int->Option Int):Con I:=⟨141,⟨[.str, .int .u8],[]⟩,[],⟨[.int .i64],[]⟩,0,F⟩
theorem GM:zx Tryz.prog (FD Wj):=UM
def Ep(F:Str×Str->Option Int):Con I:=⟨180,⟨[.str, .str],[]⟩,[],⟨[.int .i64],[]⟩,0,F⟩
theorem Nv:zx Tryz.prog (Ep ae):=CL
def jC(F:Str×Str->Option Str):Con I:=⟨300,⟨[.str, .str],[]⟩,[],⟨[.str],[]⟩,0,F⟩
theorem aL:zx Tryz.prog (jC Sg):=vL
def oD(F:Str×Str->Option Int):Con I:=⟨301,⟨[.str, .str],[]⟩,[],⟨[.int .i64],[]⟩,0,F⟩
theorem wM:zx Tryz.prog (oD Jk):=gN
def OB(F:Str×Str->Option (Str×Str×Bool)):Con I:=⟨302,⟨[.str, .str],[]⟩,[],⟨[.str, .str, .bool],[]⟩,0,F⟩
theorem YJ:zx Tryz.prog (OB cutF):=jJ
def Wu(F:List zq->Option (List ze×Int)):Con I:=⟨41,⟨[.sl 128],[]⟩,[],⟨[.sl 132, .int .i64],[]⟩,0,F⟩
theorem VC:zx Tryz.prog (Wu parseF):=BL
def JD(F:List zq->Option (VAnb×Int)):Con I:=⟨398,⟨[.sl 128],[]⟩,[],⟨[.val 151, .int .i64],[]⟩,0,F⟩
theorem JM:zx Tryz.prog (JD Xo):=zx.none (by kernel_rfl)
theorem uH:zx Tryz.prog (JA stringslite_HasPrefix):=
 okC (A:=⟨[],[],[],0,[],[],[]⟩) (exS:=⟨[.bool],[]⟩) Tryz.f150 zI (by kernel_rfl) (by kernel_rfl) fun x=>by kernel_rfl
theorem qC:zx Tryz.prog (Z5 strings_HasPrefix):=
 okC (A:=⟨[JA stringslite_HasPrefix],[],[],0,[],[],[]⟩) (exS:=⟨[.bool],[]⟩) Tryz.f99 (memC uH zI) (by kernel_rfl) (by kernel_rfl) fun x=>by kernel_rfl
theorem KS:zx Tryz.prog (vH ZQ):=
 okC (A:=⟨[Z5 strings_HasPrefix,Ep ae],[],[],1,[(0,⟨[],⟨[],[(0, .row 199)]⟩,[0],[],[0],0,[],⟨[],[(0, .row 199)]⟩,[0]⟩)],[],[]⟩) (exS:=⟨[],[(0, .row 199)]⟩) Tryz.f131 (memC qC (memC Nv zI)) (by kernel_rfl) (by kernel_rfl) fun x=>by kernel_rfl
theorem zT:zx Tryz.prog (zR zk):=
 okC (A:=⟨[],[],[],1,[],[],[]⟩) (exS:=⟨[.int .i64],[]⟩) Tryz.f181 zI (by kernel_rfl) (by kernel_rfl) fun x=>by kernel_rfl
theorem yl:zx Tryz.prog (si ZO):=
 okC (A:=⟨[],[],[],0,[],[],[]⟩) (exS:=⟨[.bool],[]⟩) Tryz.f182 zI (by kernel_rfl) (by kernel_rfl) fun x=>by kernel_rfl
theorem cz:zx Tryz.prog (Q5 Zo):=
 okC (A:=⟨[zR zk,si ZO],[],[],1,[(0,⟨[],⟨[],[(0, .row 199)]⟩,[0,1],[],[0],0,[],⟨[],[(0, .row 199)]⟩,[0]⟩)],[],[]⟩) (exS:=⟨[],[(0, .row 199)]⟩) Tryz.f183 (memC zT (memC yl zI)) (by kernel_rfl) (by kernel_rfl) fun x=>by kernel_rfl
theorem gT:zx Tryz.prog (BI EA):=
 okC (A:=⟨[],[(2,[1]),(4,[9]),(7,[14]),(9,[19])],[],0,[],[(7,⟨[25],⟨[.bool],[]⟩,[0,1,5],[],[],0,[],⟨[],[]⟩,[]⟩)],[]⟩) (exS:=⟨[.own 0],[(0, .sl 5)]⟩) Tryz.f334 zI (by kernel_rfl) (by kernel_rfl) fun x=>by kernel_rfl
theorem lQ:zx Tryz.prog (MH QD):=
 okC (A:=⟨[BI EA],[(2,[3])],[],0,[],[],[]⟩) (exS:=⟨[.own 0],[(0, .sl 5)]⟩) Tryz.f297 (memC gT zI) (by kernel_rfl) (by kernel_rfl) fun x=>by kernel_rfl
theorem xq:zx Tryz.prog (Ym QC):=
 okC (A:=⟨[],[],[],0,[],[],[]⟩) (exS:=⟨[.bool],[]⟩) Tryz.f299 zI (by kernel_rfl) (by kernel_rfl) fun x=>by kernel_rfl
theorem Am:zx Tryz.prog (ui Z9):=
 okC (A:=⟨[Ym QC],[],[],0,[],[],[]⟩) (exS:=⟨[.bool],[]⟩) Tryz.f240 (memC xq zI) (by kernel_rfl) (by kernel_rfl) fun x=>by kernel_rfl
theorem PE:zx Tryz.prog (Fw Xe):=
 okC (A:=⟨[ui Z9,Ym QC],[],[],0,[],[],[]⟩) (exS:=⟨[.int .i64],[]⟩) Tryz.f298 (memC Am (memC xq zI)) (by kernel_rfl) (by kernel_rfl) fun x=>by kernel_rfl
theorem PT:zx Tryz.prog (RI qA):=
 okC (A:=⟨[zR zk,MH QD,Fw Xe,si ZO],[(7,[3])],[],1,[(10,⟨[6,36],⟨[.int .i64, .int .i64],[(0, .row 199)]⟩,[0,1,4],[],[0],0,[6],⟨[.int .i64],[(0, .row 199)]⟩,[0]⟩)],[(17,⟨[6],⟨[.int .i64],[(0, .row 199)]⟩,[1],[],[0],0,[],⟨[],[]⟩,[]⟩),(19,⟨[6],⟨[.int .i64],[]⟩,[],[0],[],0,[],⟨[],[]⟩,[]⟩)],[]⟩) (exS:=⟨[.own 1],[(0, .row 199),(1, .sl 5)]⟩) Tryz.f238 (memC zT (memC lQ (memC PE (memC yl zI)))) (by kernel_rfl) (by kernel_rfl) fun x=>by kernel_rfl
theorem fT:zx Tryz.prog (yH BA):=
 okC (A:=⟨[],[(2,[1]),(4,[9]),(7,[14]),(9,[19])],[],1,[],[(7,⟨[25],⟨[.bool],[(0, .sl 5)]⟩,[0,1,5],[],[0],0,[],⟨[],[]⟩,[]⟩)],[]⟩) (exS:=⟨[.own 1],[(1, .sl 5)]⟩) Tryz.f334 zI (by kernel_rfl) (by kernel_rfl) fun x=>by kernel_rfl
theorem kQ:zx Tryz.prog (LH QE):=
 okC (A:=⟨[yH BA],[(2,[3])],[],1,[],[],[]⟩) (exS:=⟨[.own 1],[(1, .sl 5)]⟩) Tryz.f297 (memC fT zI) (by kernel_rfl) (by kernel_rfl) fun x=>by kernel_rfl
theorem QU:zx Tryz.prog (qU Zh):=
 okC (A:=⟨[zR zk,LH QE,Fw Xe,si ZO],[(7,[3])],[],2,[(10,⟨[6,36],⟨[.int .i64, .int .i64],[(0, .row 199)]⟩,[0,1,4],[1],[0],0,[6],⟨[.int .i64],[(0, .row 199)]⟩,[0]⟩)],[(17,⟨[6],⟨[.int .i64],[(0, .row 199),(1, .sl 5)]⟩,[1],[],[0,1],0,[],⟨[],[]⟩,[]⟩),(19,⟨[6],⟨[.int .i64],[(1, .sl 5)]⟩,[],[0],[1],0,[],⟨[],[]⟩,[]⟩)],[]⟩) (exS:=⟨[.own 2],[(0, .row 199),(2, .sl 5)]⟩) Tryz.f238 (memC zT (memC kQ (memC PE (memC yl zI)))) (by kernel_rfl) (by kernel_rfl) fun x=>by kernel_rfl
theorem nR:zx Tryz.prog (VH Qu):=
 okC (A:=⟨[zR zk,qU Zh],[(5,[3])],[],1,[(4,⟨[4],⟨[.own 1001],[(0, .row 199),(1, .row 128),(1001, .sl 5)]⟩,[0,2,3],[],[0,1],0,[4],⟨[.own 1001],[(0, .row 199),(1, .row 128),(1001, .sl 5)]⟩,[0,1,1001]⟩)],[],[]⟩) (exS:=⟨[.optr 1],[(0, .row 199),(1, .row 128)]⟩) Tryz.f184 (memC zT (memC QU zI)) (by kernel_rfl) (by kernel_rfl) fun x=>by kernel_rfl
theorem YF:zx Tryz.prog (Ny Yi):=
 okC (A:=⟨[Ym QC],[],[],0,[],[],[]⟩) (exS:=⟨[.bool],[]⟩) Tryz.f239 (memC xq zI) (by kernel_rfl) (by kernel_rfl) fun x=>by kernel_rfl
theorem KG:zx Tryz.prog (Gy Gh):=
 okC (A:=⟨[Ny Yi,ui Z9],[],[],0,[],[],[]⟩) (exS:=⟨[.bool],[]⟩) Tryz.f185 (memC YF (memC Am zI)) (by kernel_rfl) (by kernel_rfl) fun x=>by kernel_rfl
theorem qy:zx Tryz.prog (ZP zS):=
 okC (A:=⟨[zR zk],[],[],1,[],[],[]⟩) (exS:=⟨[.bool],[]⟩) Tryz.f186 (memC zT zI) (by kernel_rfl) (by kernel_rfl) fun x=>by kernel_rfl
theorem gH:zx Tryz.prog (AA Zm):=
 okC (A:=⟨[zR zk,Ny Yi,ZP zS],[],[],1,[],[],[]⟩) (exS:=⟨[.bool],[]⟩) Tryz.f187 (memC zT (memC YF (memC qy zI))) (by kernel_rfl) (by kernel_rfl) fun x=>by kernel_rfl
theorem Xz:zx Tryz.prog (Lr Zq):=
 okC (A:=⟨[zR zk,Gy Gh,ZP zS,qU Zh],[(5,[3])],[],1,[(2,⟨[3],⟨[.own 1002],[(0, .row 199),(1002, .sl 5)]⟩,[0],[],[0],0,[],⟨[],[]⟩,[]⟩)],[],[]⟩) (exS:=⟨[.str],[(0, .row 199)]⟩) Tryz.f188 (memC zT (memC KG (memC qy (memC QU zI)))) (by kernel_rfl) (by kernel_rfl) fun x=>by kernel_rfl
theorem pR:zx Tryz.prog (WH Jr):=
 okC (A:=⟨[zR zk,ui Z9],[],[],1,[],[(5,⟨[3],⟨[.int .i64],[]⟩,[0],[],[],0,[],⟨[],[]⟩,[]⟩),(7,⟨[3],⟨[.int .i64],[]⟩,[],[],[],0,[],⟨[],[]⟩,[]⟩)],[]⟩) (exS:=⟨[.bool],[]⟩) Tryz.f189 (memC zT (memC Am zI)) (by kernel_rfl) (by kernel_rfl) fun x=>by kernel_rfl
theorem WS:zx Tryz.prog (nH ZG):=
 okC (A:=⟨[zR zk,ui Z9],[],[],1,[(0,⟨[],⟨[],[(0, .row 199)]⟩,[0,1],[],[0],0,[],⟨[],[(0, .row 199)]⟩,[0]⟩)],[],[]⟩) (exS:=⟨[],[(0, .row 199)]⟩) Tryz.f183 (memC zT (memC Am zI)) (by kernel_rfl) (by kernel_rfl) fun x=>by kernel_rfl
theorem aS:zx Tryz.prog (rH Qf):=
 okC (A:=⟨[zR zk,nH ZG,ui Z9],[],[],1,[],[(4,⟨[],⟨[],[(0, .row 199)]⟩,[0],[],[0],0,[],⟨[],[]⟩,[]⟩),(10,⟨[4],⟨[.bool],[(0, .row 199)]⟩,[],[],[0],0,[],⟨[],[]⟩,[]⟩),(15,⟨[4,5],⟨[.bool, .int .i64],[(0, .row 199)]⟩,[],[],[0],0,[],⟨[],[]⟩,[]⟩),(19,⟨[4],⟨[.bool],[(0, .row 199)]⟩,[],[],[0],0,[],⟨[],[]⟩,[]⟩)],[]⟩) (exS:=⟨[.bool],[(0, .row 199)]⟩) Tryz.f241 (memC zT (memC WS (memC Am zI))) (by kernel_rfl) (by kernel_rfl) fun x=>by kernel_rfl
theorem mQ:zx Tryz.prog (NH um):=
 okC (A:=⟨[jC Sg,oD Jk,OB cutF],[],[],0,[(8,⟨[6,31],⟨[.int .i64, .int .i64],[]⟩,[0,2,3,4,5,29,30],[0],[],0,[6],⟨[.int .i64],[]⟩,[]⟩),(22,⟨[12,81],⟨[.int .i64, .int .i64],[]⟩,[4,79,80],[0],[],2,[12],⟨[.int .i64],[]⟩,[]⟩),(26,⟨[4,12],⟨[.int .i64, .int .i64],[]⟩,[],[],[],4,[12],⟨[.int .i64],[]⟩,[]⟩)],[(14,⟨[0,4,6],⟨[.str, .int .i64, .int .i64],[]⟩,[3,5],[],[],0,[],⟨[],[]⟩,[]⟩),(15,⟨[0,4],⟨[.str, .int .i64],[]⟩,[3],[],[],0,[],⟨[],[]⟩,[]⟩),(20,⟨[0,4],⟨[.str, .int .i64],[]⟩,[],[],[],0,[],⟨[],[]⟩,[]⟩),(31,⟨[12],⟨[.int .i64],[]⟩,[],[],[],0,[],⟨[],[]⟩,[]⟩)],[]⟩) (exS:=⟨[.int .i64],[]⟩) Tryz.f242 (memC aL (memC wM (memC YJ zI))) (by kernel_rfl) (by kernel_rfl) fun x=>by kernel_rfl
theorem YS:zx Tryz.prog (oH Qg):=
 okC (A:=⟨[rH Qf,NH um,AA Zm,Lr Zq,zR zk],[],[],1,[],[(9,⟨[],⟨[],[(0, .row 199),(1, .row 128),(2, .row 128)]⟩,[2,5],[],[0,1,2],0,[],⟨[],[]⟩,[]⟩)],[]⟩) (exS:=⟨[.optr 1],[(0, .row 199),(1, .row 128)]⟩) Tryz.f190 (memC aS (memC mQ (memC gH (memC Xz (memC zT zI))))) (by kernel_rfl) (by kernel_rfl) fun x=>by kernel_rfl
theorem ZT:zx Tryz.prog (Z0 Za):=
 okC (A:=⟨[],[],[],0,[(3,⟨[10],⟨[.int .i64],[(0, .sl 5)]⟩,[2,3,8,9],[],[0],0,[],⟨[],[(0, .sl 5)]⟩,[0]⟩)],[(7,⟨[10],⟨[.int .i64],[(0, .sl 5)]⟩,[],[],[0],0,[],⟨[],[]⟩,[]⟩)],[]⟩) (exS:=⟨[.str],[]⟩) Tryz.f78 zI (by kernel_rfl) (by kernel_rfl) fun x=>by kernel_rfl
theorem Jh:zx Tryz.prog (Q0 Zy):=
 okC (A:=⟨[Z0 Za],[],[],0,[],[],[]⟩) (exS:=⟨[.bool],[]⟩) Tryz.f209 (memC ZT zI) (by kernel_rfl) (by kernel_rfl) fun x=>by kernel_rfl
theorem XR:zx Tryz.prog (PH qR):=
 okC (A:=⟨[zR zk,ZP zS,RI qA],[],[],1,[(1,⟨[],⟨[],[(0, .row 199),(1, .row 128)]⟩,[0,2],[],[0,1],0,[],⟨[],[]⟩,[]⟩)],[],[]⟩) (exS:=⟨[.optr 1],[(0, .row 199),(1, .row 128)]⟩) Tryz.f303 (memC zT (memC qy (memC PT zI))) (by kernel_rfl) (by kernel_rfl) fun x=>by kernel_rfl
theorem WR:zx Tryz.prog (OH wm):=
 okC (A:=⟨[Q5 Zo,zR zk,si ZO,PH qR,Ym QC,ZP zS,qU Zh],[(18,[3])],[],1,[(3,⟨[3],⟨[.own 1003],[(0, .row 199),(1, .row 128),(1003, .sl 5)]⟩,[0,2],[],[0,1],0,[],⟨[],[]⟩,[]⟩)],[(10,⟨[3,4],⟨[.own 1003, .int .i64],[(0, .row 199),(1, .row 128),(1003, .sl 5)]⟩,[],[],[0,1,1003],0,[],⟨[],[]⟩,[]⟩)],[]⟩) (exS:=⟨[.optr 1],[(0, .row 199),(1, .row 128)]⟩) Tryz.f243 (memC cz (memC zT (memC yl (memC XR (memC xq (memC qy (memC QU zI))))))) (by kernel_rfl) (by kernel_rfl) fun x=>by kernel_rfl
theorem JS:zx Tryz.prog (aH QQ):=
 okC (A:=⟨[Lr Zq,zR zk,Q0 Zy,Q5 Zo,OH wm],[],[],1,[],[(11,⟨[],⟨[],[(0, .row 199),(1, .row 128)]⟩,[2,3],[],[0,1],0,[],⟨[],[]⟩,[]⟩)],[]⟩) (exS:=⟨[.optr 1],[(0, .row 199),(1, .row 128)]⟩) Tryz.f191 (memC Xz (memC zT (memC Jh (memC cz (memC WR zI))))) (by kernel_rfl) (by kernel_rfl) fun x=>by kernel_rfl
theorem qD:zx Tryz.prog (Z6 strings_IndexByte):=
 okC (A:=⟨[FD Wj],[],[],0,[],[],[]⟩) (exS:=⟨[.int .i64],[]⟩) Tryz.f84 (memC GM zI) (by kernel_rfl) (by kernel_rfl) fun x=>by kernel_rfl
theorem PR:zx Tryz.prog (yG jm):=
 okC (A:=⟨[zR zk,si ZO,Q5 Zo,VH Qu,Gy Gh,ZP zS,AA Zm,Lr Zq,WH Jr,oH Qg,Z5 strings_HasPrefix,aH QQ,Z6 strings_IndexByte],[],[],1,[],[],[]⟩) (exS:=⟨[.optr 1],[(0, .row 199),(1, .row 128)]⟩) Tryz.f132 (memC zT (memC yl (memC cz (memC nR (memC KG (memC qy (memC gH (memC Xz (memC pR (memC YS (memC qC (memC JS (memC qD zI))))))))))))) (by kernel_rfl) (by kernel_rfl) fun x=>by kernel_rfl
theorem nQ:zx Tryz.prog (oG tq):=
 okC (A:=⟨[],[(1,[2])],[],2,[],[],[]⟩) (exS:=⟨[],[(0, .cells 91 [.own 2]),(2, .sl 128)]⟩) Tryz.f74 zI (by kernel_rfl) (by kernel_rfl) fun x=>by kernel_rfl
theorem sO:zx Tryz.prog (oF Kl):=
 okC (A:=⟨[lC xh,vH ZQ,yG jm,oG tq],[],[],1,[(7,⟨[7],⟨[.int .i64],[(0, .cells 91 [.own 1004]),(1004, .sl 128),(1, .row 199)]⟩,[0,1,6],[],[0,1],0,[],⟨[],[(0, .cells 91 [.own 1004]),(1004, .sl 128),(1, .row 199)]⟩,[0,1,1004]⟩)],[],[]⟩) (exS:=⟨[.int .i64],[(0, .cells 91 [.own 1]),(1, .sl 128)]⟩) Tryz.f73 (memC dL (memC KS (memC PR (memC nQ zI)))) (by kernel_rfl) (by kernel_rfl) fun x=>by kernel_rfl
theorem LG:zx Tryz.prog (Hy af):=
 okC (A:=⟨[oF Kl],[],[],0,[],[],[]⟩) (exS:=⟨[.sl 128, .int .i64],[]⟩) Tryz.f40 (memC sO zI) (by kernel_rfl) (by kernel_rfl) fun x=>by kernel_rfl
theorem WN:zx Tryz.prog (bE Ri):=
 okC (A:=⟨[],[],[],0,[],[],[]⟩) (exS:=⟨[.int .u8],[]⟩) Tryz.f77 zI (by kernel_rfl) (by kernel_rfl) fun x=>by kernel_rfl
theorem UR:zx Tryz.prog (EH lm):=
 okC (A:=⟨[],[],[],1,[(2,⟨[8],⟨[.int .i64],[]⟩,[0,1,7],[],[],0,[],⟨[],[]⟩,[]⟩)],[],[]⟩) (exS:=⟨[.int .i64],[]⟩) Tryz.f192 zI (by kernel_rfl) (by kernel_rfl) fun x=>by kernel_rfl
theorem dS:zx Tryz.prog (tH Qc):=
 okC (A:=⟨[EH lm],[],[],1,[],[],[]⟩) (exS:=⟨[.bool],[]⟩) Tryz.f135 (memC UR zI) (by kernel_rfl) (by kernel_rfl) fun x=>by kernel_rfl
theorem NQ:zx Tryz.prog (IG Ul):=
 okC (A:=⟨[tH Qc],[],[],2,[],[],[]⟩) (exS:=⟨[.bool],[]⟩) Tryz.f134 (memC dS zI) (by kernel_rfl) (by kernel_rfl) fun x=>by kernel_rfl
theorem NS:zx Tryz.prog (xH qJ):=
 okC (A:=⟨[IG Ul],[],[],2,[(2,⟨[8],⟨[.int .i64],[]⟩,[0,1,7],[],[],0,[],⟨[],[]⟩,[]⟩)],[],[]⟩) (exS:=⟨[.int .i64],[]⟩) Tryz.f133 (memC NQ zI) (by kernel_rfl) (by kernel_rfl) fun x=>by kernel_rfl
theorem wO:zx Tryz.prog (pE El):=
 okC (A:=⟨[xH qJ],[],[],1,[],[],[]⟩) (exS:=⟨[.sl 132, .sl 132],[]⟩) Tryz.f79 (memC NS zI) (by kernel_rfl) (by kernel_rfl) fun x=>by kernel_rfl
theorem Dy:zx Tryz.prog (gq Af):=
 okC (A:=⟨[],[],[],0,[],[(7,⟨[6],⟨[.bool],[]⟩,[0],[],[],0,[],⟨[],[]⟩,[]⟩)],[]⟩) (exS:=⟨[.int .u8],[]⟩) Tryz.f76 zI (by kernel_rfl) (by kernel_rfl) fun x=>by kernel_rfl
theorem rM(qX:List ze×Int->Option zP)(hs:zx Tryz.prog (Xi qX)):zx Tryz.prog (Xi (ik qX)):=
 okC (A:=⟨[gq Af,Xi qX],[],[],0,[(3,⟨[12],⟨[.int .i64],[(1, .row 161)]⟩,[1,4,5,10,11],[0],[1],0,[],⟨[],[(1, .row 161)]⟩,[1]⟩)],[(9,⟨[],⟨[],[(1, .row 161)]⟩,[7,8,12],[2],[1],0,[],⟨[],[]⟩,[]⟩),(12,⟨[12],⟨[.int .i64],[(1, .row 161)]⟩,[],[],[1],0,[],⟨[],[]⟩,[]⟩)],[]⟩) (exS:=⟨[.optr 0],[(0, .row 161)]⟩) Tryz.f90 (memC Dy (memC hs zI)) (by kernel_rfl) (by kernel_rfl) fun x=>by kernel_rfl
theorem TE:zx Tryz.prog (Xi qX):=
 zx.recE (I:=I) (P:=Tryz.prog) (f:=90) (inS:=⟨[.sl 132, .int .u8],[]⟩) (cst:=[]) (outS:=⟨[.val 161],[]⟩) (k:=0) (ik) (by kernel_rfl) (fun S h=>rM S h)
theorem Oh:zx Tryz.prog (Lg qc):=
 okC (A:=⟨[Xi qX],[],[],0,[],[],[]⟩) (exS:=⟨[.int .i64],[]⟩) Tryz.f89 (memC TE zI) (by kernel_rfl) (by kernel_rfl) fun x=>by kernel_rfl
theorem qH:zx Tryz.prog (qa zH):=
 okC (A:=⟨[],[],[],1,[],[],[]⟩) (exS:=⟨[.optr 1],[(1, .row 128)]⟩) Tryz.f345 zI (by kernel_rfl) (by kernel_rfl) fun x=>by kernel_rfl
theorem OA:zx Tryz.prog (Qv zX):=
 okC (A:=⟨[qa zH],[],[],1,[(2,⟨[],⟨[],[(0, .row 368)]⟩,[0,2,3],[],[0],0,[],⟨[],[(0, .row 368)]⟩,[0]⟩)],[],[]⟩) (exS:=⟨[.bool],[(0, .row 368)]⟩) Tryz.f343 (memC qH zI) (by kernel_rfl) (by kernel_rfl) fun x=>by kernel_rfl
theorem gz:zx Tryz.prog (Q3 Zf):=
 okC (A:=⟨[qa zH],[],[],1,[],[],[]⟩) (exS:=⟨[.bool],[(0, .row 368)]⟩) Tryz.f346 (memC qH zI) (by kernel_rfl) (by kernel_rfl) fun x=>by kernel_rfl
theorem wR:zx Tryz.prog (eH qN):=
 okC (A:=⟨[Q3 Zf,Qv zX],[],[],1,[(2,⟨[4],⟨[.int .i64],[(0, .row 368)]⟩,[0],[],[0],0,[],⟨[],[(0, .row 368)]⟩,[0]⟩)],[],[]⟩) (exS:=⟨[.int .u8],[(0, .row 368)]⟩) Tryz.f344 (memC gz (memC OA zI)) (by kernel_rfl) (by kernel_rfl) fun x=>by kernel_rfl
theorem vR:zx Tryz.prog (dH qO):=
 okC (A:=⟨[],[],[],1,[],[],[]⟩) (exS:=⟨[.sl 132],[]⟩) Tryz.f369 zI (by kernel_rfl) (by kernel_rfl) fun x=>by kernel_rfl
theorem SH:zx Tryz.prog (Yz Zj):=
 okC (A:=⟨[],[],[],1,[],[],[]⟩) (exS:=⟨[.bool],[]⟩) Tryz.f348 zI (by kernel_rfl) (by kernel_rfl) fun x=>by kernel_rfl
theorem oP:zx Tryz.prog (tF jl):=
 okC (A:=⟨[Qv zX,qa zH,Z0 Za,Yz Zj,Q3 Zf,Ep ae,Q0 Zy],[],[],0,[],[(20,⟨[],⟨[],[(0, .cells 153 [.int .u8, .str, .int .u8, .str, .bool, .int .i64, .int .i64, .bool, .nilv]),(1, .row 368),(2, .cells 153 [.int .u8, .str, .int .u8, .str, .bool, .int .i64, .int .i64, .bool, .nilv])]⟩,[2,4,5],[],[0,1,2],0,[],⟨[],[]⟩,[]⟩)],[]⟩) (exS:=⟨[.optr 0, .bool],[(0, .row 153)]⟩) Tryz.f368 (memC OA (memC qH (memC ZT (memC SH (memC gz (memC Nv (memC Jh zI))))))) (by kernel_rfl) (by kernel_rfl) fun x=>by kernel_rfl
theorem RG:zx Tryz.prog (ry Mh):=
 okC (A:=⟨[],[(1,[0])],[],0,[],[],[]⟩) (exS:=⟨[.sl 9],[]⟩) Tryz.f386 zI (by kernel_rfl) (by kernel_rfl) fun x=>by kernel_rfl
theorem dz:zx Tryz.prog (Q4 slices_Index_string):=
 okC (A:=⟨[],[],[],0,[(2,⟨[8],⟨[.int .i64],[]⟩,[0,1,7],[],[],0,[],⟨[],[]⟩,[]⟩)],[],[]⟩) (exS:=⟨[.int .i64],[]⟩) Tryz.f311 zI (by kernel_rfl) (by kernel_rfl) fun x=>by kernel_rfl
theorem nP:zx Tryz.prog (sF il):=
 okC (A:=⟨[Z0 Za,ry Mh,Q4 slices_Index_string],[],[],0,[],[],[]⟩) (exS:=⟨[.optr 0, .bool],[(0, .row 153)]⟩) Tryz.f370 (memC ZT (memC RG (memC dz zI))) (by kernel_rfl) (by kernel_rfl) fun x=>by kernel_rfl
theorem RQ:zx Tryz.prog (eG Pm):=
 okC (A:=⟨[Q0 Zy],[],[],0,[],[],[]⟩) (exS:=⟨[.bool],[]⟩) Tryz.f397 (memC Jh zI) (by kernel_rfl) (by kernel_rfl) fun x=>by kernel_rfl
theorem wS:zx Tryz.prog (NI qh):=
 okC (A:=⟨[eG Pm],[],[],0,[(2,⟨[8],⟨[.int .i64],[]⟩,[0,1,7],[],[],0,[],⟨[],[]⟩,[]⟩)],[],[]⟩) (exS:=⟨[.int .i64],[]⟩) Tryz.f133 (memC RQ zI) (by kernel_rfl) (by kernel_rfl) fun x=>by kernel_rfl
theorem Kz:zx Tryz.prog (Hr ZH):=
 okC (A:=⟨[],[],[],0,[],[],[]⟩) (exS:=⟨[.optr 0, .bool],[(0, .row 157)]⟩) Tryz.f255 zI (by kernel_rfl) (by kernel_rfl) fun x=>by kernel_rfl
theorem vO(Z7:List ze×List zq->Option (List zq))(hs:zx Tryz.prog (Km Z7)):zx Tryz.prog (Km (Hm Z7)):=
 okC (A:=⟨[gq Af,Km Z7],[(4,[3]),(7,[6])],[],1,[(2,⟨[0,10],⟨[.own 1006, .int .i64],[(1006, .sl 128)]⟩,[4,8,9],[],[],0,[0],⟨[.own 1006],[(1006, .sl 128)]⟩,[1006]⟩)],[(8,⟨[0,10],⟨[.own 1108, .int .i64],[(1108, .sl 128)]⟩,[],[],[],0,[],⟨[],[]⟩,[]⟩)],[]⟩) (exS:=⟨[.own 1],[(1, .sl 128)]⟩) Tryz.f146 (memC Dy (memC hs zI)) (by kernel_rfl) (by kernel_rfl) fun x=>by kernel_rfl
theorem IP:zx Tryz.prog (Km Z7):=
 zx.recE (I:=I) (P:=Tryz.prog) (f:=146) (inS:=⟨[.own 0, .sl 132],[(0, .sl 128)]⟩) (cst:=[]) (outS:=⟨[.own 1],[(1, .sl 128)]⟩) (k:=1) (Hm) (by kernel_rfl) (fun S h=>vO S h)
theorem JP:zx Tryz.prog (BF jk):=
 okC (A:=⟨[gq Af,Km Z7],[(4,[3]),(7,[6])],[],0,[(2,⟨[0,10],⟨[.own 1110, .int .i64],[(1110, .sl 128)]⟩,[4,8,9],[],[],0,[0],⟨[.own 1110],[(1110, .sl 128)]⟩,[1110]⟩)],[(8,⟨[0,10],⟨[.own 1212, .int .i64],[(1212, .sl 128)]⟩,[],[],[],0,[],⟨[],[]⟩,[]⟩)],[]⟩) (exS:=⟨[.own 0],[(0, .sl 128)]⟩) Tryz.f146 (memC Dy (memC IP zI)) (by kernel_rfl) (by kernel_rfl) fun x=>by kernel_rfl
theorem UE:zx Tryz.prog (Gw lg):=
 okC (A:=⟨[Lg qc,BF jk],[],[],0,[],[],[]⟩) (exS:=⟨[.sl 128, .int .i64],[]⟩) Tryz.f91 (memC Oh (memC JP zI)) (by kernel_rfl) (by kernel_rfl) fun x=>by kernel_rfl
theorem EG:zx Tryz.prog (Jy mi):=
 okC (A:=⟨[Z6 strings_IndexByte],[],[],0,[],[],[]⟩) (exS:=⟨[.bool],[]⟩) Tryz.f257 (memC qD zI) (by kernel_rfl) (by kernel_rfl) fun x=>by kernel_rfl
theorem SG:zx Tryz.prog (uy Nh):=
 okC (A:=⟨[Jy mi],[],[],0,[],[],[]⟩) (exS:=⟨[.bool],[]⟩) Tryz.f253 (memC EG zI) (by kernel_rfl) (by kernel_rfl) fun x=>by kernel_rfl
theorem PG:zx Tryz.prog (ny Lh):=
 okC (A:=⟨[uy Nh,Z0 Za],[],[],0,[],[],[]⟩) (exS:=⟨[.bool],[]⟩) Tryz.f203 (memC SG (memC ZT zI)) (by kernel_rfl) (by kernel_rfl) fun x=>by kernel_rfl
theorem SQ:zx Tryz.prog (fG lq):=
 okC (A:=⟨[],[],[],0,[],[(4,⟨[6],⟨[.bool],[]⟩,[1,5],[0],[],0,[],⟨[],[]⟩,[]⟩),(7,⟨[11],⟨[.bool],[]⟩,[],[],[],0,[],⟨[],[]⟩,[]⟩),(10,⟨[14],⟨[.bool],[]⟩,[],[],[],0,[],⟨[],[]⟩,[]⟩)],[]⟩) (exS:=⟨[.bool, .bool],[]⟩) Tryz.f254 zI (by kernel_rfl) (by kernel_rfl) fun x=>by kernel_rfl
theorem WO:zx Tryz.prog (ME Hq):=
 okC (A:=⟨[],[],[],0,[],[],[]⟩) (exS:=⟨[.bool],[]⟩) Tryz.f309 zI (by kernel_rfl) (by kernel_rfl) fun x=>by kernel_rfl
theorem nN:zx Tryz.prog (wD Bq):=
 okC (A:=⟨[ME Hq],[],[],0,[],[],[]⟩) (exS:=⟨[.int .i64],[]⟩) Tryz.f258 (memC WO zI) (by kernel_rfl) (by kernel_rfl) fun x=>by kernel_rfl
theorem eQ(zg:zy×zf->Option Bool)(h_seltext_compound:zx Tryz.prog (Ze zg)):zx Tryz.prog (jG (Um zg)):=
 okC (A:=⟨[Ze zg],[],[],1,[],[],[]⟩) (exS:=⟨[.bool],[]⟩) Tryz.f144 (memC h_seltext_compound zI) (by kernel_rfl) (by kernel_rfl) fun x=>by kernel_rfl
theorem kT(zg:zy×zf->Option Bool)(h_seltext_compound:zx Tryz.prog (Ze zg)):zx Tryz.prog (FI (ZW zg)):=
 okC (A:=⟨[jG (Um zg)],[],[],1,[(2,⟨[8],⟨[.int .i64],[]⟩,[0,1,7],[],[],0,[],⟨[],[]⟩,[]⟩)],[],[]⟩) (exS:=⟨[.int .i64],[]⟩) Tryz.f202 (memC (eQ zg h_seltext_compound) zI) (by kernel_rfl) (by kernel_rfl) fun x=>by kernel_rfl
theorem yT(zg:zy×zf->Option Bool)(h_seltext_compound:zx Tryz.prog (Ze zg)):zx Tryz.prog (XI (Zz zg)):=
 okC (A:=⟨[FI (ZW zg)],[],[],1,[],[],[]⟩) (exS:=⟨[.bool],[]⟩) Tryz.f143 (memC (kT zg h_seltext_compound) zI) (by kernel_rfl) (by kernel_rfl) fun x=>by kernel_rfl
theorem OG(zg:zy×zf->Option Bool)(h_seltext_compound:zx Tryz.prog (Ze zg)):zx Tryz.prog (Az (Kh zg)):=
 okC (A:=⟨[XI (Zz zg)],[],[],0,[(4,⟨[38],⟨[.int .i64],[]⟩,[3,4,36,37],[0,1],[],0,[],⟨[],[]⟩,[]⟩)],[],[]⟩) (exS:=⟨[.bool],[]⟩) Tryz.f87 (memC (yT zg h_seltext_compound) zI) (by kernel_rfl) (by kernel_rfl) fun x=>by kernel_rfl
theorem pQ(zg:zy×zf->Option Bool)(h_seltext_compound:zx Tryz.prog (Ze zg)):zx Tryz.prog (rG (Tm zg)):=
 okC (A:=⟨[Az (Kh zg)],[],[],2,[],[],[]⟩) (exS:=⟨[.bool],[]⟩) Tryz.f256 (memC (OG zg h_seltext_compound) zI) (by kernel_rfl) (by kernel_rfl) fun x=>by kernel_rfl
theorem xS(zg:zy×zf->Option Bool)(h_seltext_compound:zx Tryz.prog (Ze zg)):zx Tryz.prog (OI (qg zg)):=
 okC (A:=⟨[rG (Tm zg)],[],[],2,[(2,⟨[8],⟨[.int .i64],[]⟩,[0,1,7],[],[],0,[],⟨[],[]⟩,[]⟩)],[],[]⟩) (exS:=⟨[.int .i64],[]⟩) Tryz.f142 (memC (pQ zg h_seltext_compound) zI) (by kernel_rfl) (by kernel_rfl) fun x=>by kernel_rfl
theorem IU(zg:zy×zf->Option Bool)(h_seltext_compound:zx Tryz.prog (Ze zg)):zx Tryz.prog (aI (ZE zg)):=
 okC (A:=⟨[OI (qg zg)],[],[],2,[],[],[]⟩) (exS:=⟨[.bool],[]⟩) Tryz.f85 (memC (xS zg h_seltext_compound) zI) (by kernel_rfl) (by kernel_rfl) fun x=>by kernel_rfl
theorem xP(zg:zy×zf->Option Bool)(h_seltext_compound:zx Tryz.prog (Ze zg)):zx Tryz.prog (aG (ul zg)):=
 okC (A:=⟨[fG lq,Hr ZH,aI (ZE zg),uy Nh,ny Lh,Jy mi,wD Bq],[],[],0,[],[(8,⟨[],⟨[],[]⟩,[2],[0],[],0,[],⟨[],[]⟩,[]⟩),(15,⟨[89],⟨[.bool],[]⟩,[10,88],[],[],0,[],⟨[],[]⟩,[]⟩)],[]⟩) (exS:=⟨[.bool],[]⟩) Tryz.f204 (memC SQ (memC Kz (memC (IU zg h_seltext_compound) (memC SG (memC PG (memC EG (memC nN zI))))))) (by kernel_rfl) (by kernel_rfl) fun x=>by kernel_rfl
theorem CR(zg:zy×zf->Option Bool)(hs:zx Tryz.prog (Ze zg)):zx Tryz.prog (Ze (om zg)):=
 okC (A:=⟨[ny Lh,aG (ul zg)],[],[],0,[(4,⟨[30],⟨[.int .i64],[]⟩,[2,3,28,29],[0,1],[],0,[],⟨[],[]⟩,[]⟩)],[],[]⟩) (exS:=⟨[.bool],[]⟩) Tryz.f145 (memC PG (memC (xP zg hs) zI)) (by kernel_rfl) (by kernel_rfl) fun x=>by kernel_rfl
theorem mG:zx Tryz.prog (Ze zg):=
 zx.recE (I:=I) (P:=Tryz.prog) (f:=145) (inS:=⟨[.val 149, .val 157],[]⟩) (cst:=[]) (outS:=⟨[.bool],[]⟩) (k:=0) (om) (by kernel_rfl) (fun S h=>CR S h)
theorem FP(zu:List ze×zf×Bool×Bool->Option (List zw×Bool))(h_seltext_parts:zx Tryz.prog (ZR zu)):zx Tryz.prog (yE (Jl zu)):=
 okC (A:=⟨[NI qh,Hr ZH,ZR zu,Gw lg,JD Xo],[],[],0,[],[(8,⟨[1],⟨[.sl 132],[(0, .row 153),(2, .cells 153 [.int .u8, .str, .int .u8, .str, .bool, .int .i64, .int .i64, .bool, .nilv])]⟩,[3,6],[],[0,2],0,[],⟨[],[]⟩,[]⟩)],[]⟩) (exS:=⟨[.optr 0, .bool],[(0, .row 153)]⟩) Tryz.f387 (memC wS (memC Kz (memC h_seltext_parts (memC UE (memC JM zI))))) (by kernel_rfl) (by kernel_rfl) fun x=>by kernel_rfl
theorem rQ(zu:List ze×zf×Bool×Bool->Option (List zw×Bool))(h_seltext_parts:zx Tryz.prog (ZR zu)):zx Tryz.prog (sG (Dn zu)):=
 okC (A:=⟨[ry Mh,Z0 Za,Q4 slices_Index_string,yE (Jl zu),Hr ZH,ZR zu],[],[],0,[],[],[]⟩) (exS:=⟨[.optr 0, .bool],[(0, .row 153)]⟩) Tryz.f371 (memC RG (memC ZT (memC dz (memC (FP zu h_seltext_parts) (memC Kz (memC h_seltext_parts zI)))))) (by kernel_rfl) (by kernel_rfl) fun x=>by kernel_rfl
theorem RS(zu:List ze×zf×Bool×Bool->Option (List zw×Bool))(h_seltext_parts:zx Tryz.prog (ZR zu)):zx Tryz.prog (lH (qI zu)):=
 okC (A:=⟨[qa zH,dH qO,tF jl,sF il,sG (Dn zu)],[(24,[2])],[],1,[(2,⟨[6],⟨[.own 1323],[(0, .row 368),(1323, .sl 153)]⟩,[0,3],[1],[0],0,[],⟨[],[]⟩,[]⟩)],[(21,⟨[8],⟨[.bool],[(0, .row 368),(1324, .row 153)]⟩,[6,7],[1323],[0,1324],0,[],⟨[],[]⟩,[]⟩),(22,⟨[6,8],⟨[.own 1323, .bool],[(0, .row 368),(1323, .sl 153),(1324, .row 153)]⟩,[7],[],[0,1323,1324],0,[],⟨[],[]⟩,[]⟩)],[]⟩) (exS:=⟨[.sl 153, .bool],[(0, .row 368)]⟩) Tryz.f347 (memC qH (memC vR (memC oP (memC nP (memC (rQ zu h_seltext_parts) zI))))) (by kernel_rfl) (by kernel_rfl) fun x=>by kernel_rfl
theorem aR(zu:List ze×zf×Bool×Bool->Option (List zw×Bool))(h_seltext_parts:zx Tryz.prog (ZR zu)):zx Tryz.prog (GH (Bn zu)):=
 okC (A:=⟨[Qv zX,eH qN,qa zH,Z0 Za,Q3 Zf,lH (qI zu),Ze zg,Yz Zj],[(19,[3]),(27,[3])],[],0,[(8,⟨[],⟨[],[(1, .cells 146 [.int .u8, .nilv, .nilv]),(2, .row 368),(3, .cells 146 [.int .u8, .own 1324, .own 1325]),(1324, .sl 149),(1325, .sl 5)]⟩,[],[],[1,2,3],0,[],⟨[],[(1, .cells 146 [.int .u8, .nilv, .nilv]),(2, .row 368),(3, .cells 146 [.int .u8, .own 1326, .own 1325]),(1326, .sl 149),(1325, .sl 5)]⟩,[1,2,3,1325]⟩)],[(8,⟨[],⟨[],[(1, .cells 146 [.int .u8, .nilv, .nilv]),(2, .row 368),(3, .cells 146 [.int .u8, .nilv, .nilv])]⟩,[4,6,8,9],[0],[1,2,3],0,[],⟨[],[]⟩,[]⟩),(15,⟨[],⟨[],[(1, .cells 146 [.int .u8, .nilv, .nilv]),(2, .row 368),(3, .cells 146 [.int .u8, .own 1324, .own 1325]),(1324, .sl 149),(1325, .sl 5),(1326, .cells 149 [.str, .nilv])]⟩,[10],[],[1,2,3,1324,1325,1326],0,[],⟨[],[]⟩,[]⟩),(27,⟨[14],⟨[.int .u8],[(1, .cells 146 [.int .u8, .nilv, .nilv]),(3, .cells 146 [.int .u8, .own 1328, .own 1325]),(1328, .sl 149),(1325, .sl 5)]⟩,[],[2,1326],[1,3,1325,1328],0,[],⟨[],[]⟩,[]⟩)],[]⟩) (exS:=⟨[.optr 0, .bool],[(0, .row 146)]⟩) Tryz.f304 (memC OA (memC wR (memC qH (memC ZT (memC gz (memC (RS zu h_seltext_parts) (memC mG (memC SH zI)))))))) (by kernel_rfl) (by kernel_rfl) fun x=>by kernel_rfl
theorem RP(zu:List ze×zf×Bool×Bool->Option (List zw×Bool))(hs:zx Tryz.prog (ZR zu)):zx Tryz.prog (ZR (Vm zu)):=
 okC (A:=⟨[GH (Bn zu)],[(9,[2])],[],0,[(4,⟨[10,11,18],⟨[.own 1219, .int .i64, .int .i64],[(1219, .sl 146)]⟩,[0,2,3,5,17],[0],[],0,[10],⟨[.own 1219],[(1219, .sl 146)]⟩,[1219]⟩)],[(12,⟨[10],⟨[.own 1321],[(1321, .sl 146)]⟩,[12,18],[],[],0,[],⟨[],[]⟩,[]⟩),(13,⟨[10,11,18],⟨[.own 1322, .int .i64, .int .i64],[(1322, .sl 146)]⟩,[],[],[],0,[],⟨[],[]⟩,[]⟩)],[]⟩) (exS:=⟨[.sl 146, .bool],[]⟩) Tryz.f244 (memC (aR zu hs) zI) (by kernel_rfl) (by kernel_rfl) fun x=>by kernel_rfl
theorem PQ:zx Tryz.prog (ZR zu):=
 zx.recE (I:=I) (P:=Tryz.prog) (f:=244) (inS:=⟨[.sl 132, .val 157, .bool, .bool],[]⟩) (cst:=[]) (outS:=⟨[.sl 146, .bool],[]⟩) (k:=0) (Vm) (by kernel_rfl) (fun S h=>RP S h)
theorem MQ(Zl:List zw->Option Int)(hs:zx Tryz.prog (Aj Zl)):zx Tryz.prog (Aj (Wm Zl)):=
 okC (A:=⟨[Aj Zl],[],[],0,[(3,⟨[3,14],⟨[.int .i64, .int .i64],[]⟩,[2,12,13],[],[],0,[3],⟨[.int .i64],[]⟩,[]⟩),(6,⟨[3,21],⟨[.int .i64, .int .i64],[]⟩,[14,19,20],[],[],2,[3],⟨[.int .i64],[]⟩,[]⟩),(9,⟨[3,28],⟨[.int .i64, .int .i64],[]⟩,[21,26,27],[],[],4,[3],⟨[.int .i64],[]⟩,[]⟩)],[],[]⟩) (exS:=⟨[.int .i64],[]⟩) Tryz.f88 (memC hs zI) (by kernel_rfl) (by kernel_rfl) fun x=>by kernel_rfl
theorem TG:zx Tryz.prog (Aj Zl):=
 zx.recE (I:=I) (P:=Tryz.prog) (f:=88) (inS:=⟨[.sl 146],[]⟩) (cst:=[]) (outS:=⟨[.int .i64],[]⟩) (k:=0) (Wm) (by kernel_rfl) (fun S h=>MQ S h)
theorem aN:zx Tryz.prog (dE Pk):=
 okC (A:=⟨[Lg qc,ZR zu,Aj Zl],[],[],0,[],[],[]⟩) (exS:=⟨[.sl 146, .int .i64],[]⟩) Tryz.f193 (memC Oh (memC PQ (memC TG zI))) (by kernel_rfl) (by kernel_rfl) fun x=>by kernel_rfl
theorem VR:zx Tryz.prog (FH Er):=
 okC (A:=⟨[],[],[],0,[],[],[]⟩) (exS:=⟨[.own 0],[(0, .sl 132)]⟩) Tryz.f307 zI (by kernel_rfl) (by kernel_rfl) fun x=>by kernel_rfl
theorem pM(qG:List ze->Option (List ze))(hs:zx Tryz.prog (Wi qG)):zx Tryz.prog (Wi (ek qG)):=
 okC (A:=⟨[FH Er,Wi qG],[],[],0,[(3,⟨[8],⟨[.int .i64],[(0, .sl 132)]⟩,[0,2,7],[],[0],0,[],⟨[],[(0, .sl 132)]⟩,[0]⟩)],[],[]⟩) (exS:=⟨[.sl 132],[]⟩) Tryz.f246 (memC VR (memC hs zI)) (by kernel_rfl) (by kernel_rfl) fun x=>by kernel_rfl
theorem SE:zx Tryz.prog (Wi qG):=
 zx.recE (I:=I) (P:=Tryz.prog) (f:=246) (inS:=⟨[.sl 132],[]⟩) (cst:=[]) (outS:=⟨[.sl 132],[]⟩) (k:=0) (ek) (by kernel_rfl) (fun S h=>pM S h)
theorem jw:zx Tryz.prog (Mq Uf):=
 okC (A:=⟨[Lg qc,Wi qG],[(12,[7]),(15,[5])],[],0,[(9,⟨[7,8,24],⟨[.own 1328, .int .i64, .int .i64],[(1328, .sl 31)]⟩,[0,1,4,5,22,23],[],[],0,[7,8],⟨[.own 1328, .int .i64],[(1328, .sl 31)]⟩,[1328]⟩)],[(14,⟨[7,8,24],⟨[.own 1430, .int .i64, .int .i64],[(1430, .sl 31)]⟩,[],[],[],0,[],⟨[],[]⟩,[]⟩)],[]⟩) (exS:=⟨[.sl 31, .int .i64],[]⟩) Tryz.f195 (memC Oh (memC SE zI)) (by kernel_rfl) (by kernel_rfl) fun x=>by kernel_rfl
theorem pg:zx Tryz.prog (Fg qo):=
 okC (A:=⟨[],[],[],0,[],[],[]⟩) (exS:=⟨[.bool],[]⟩) Tryz.f97 zI (by kernel_rfl) (by kernel_rfl) fun x=>by kernel_rfl
theorem yM:zx Tryz.prog (sD og):=
 okC (A:=⟨[Fg qo],[],[],0,[(1,⟨[0],⟨[.sl 132],[]⟩,[2],[],[],0,[0],⟨[.sl 132],[]⟩,[]⟩)],[],[]⟩) (exS:=⟨[.sl 132],[]⟩) Tryz.f306 (memC pg zI) (by kernel_rfl) (by kernel_rfl) fun x=>by kernel_rfl
theorem PO:zx Tryz.prog (FE ug):=
 okC (A:=⟨[Fg qo],[],[],0,[(1,⟨[0],⟨[.sl 132],[]⟩,[2],[],[],0,[0],⟨[.sl 132],[]⟩,[]⟩)],[],[]⟩) (exS:=⟨[.sl 132],[]⟩) Tryz.f305 (memC pg zI) (by kernel_rfl) (by kernel_rfl) fun x=>by kernel_rfl
theorem VE:zx Tryz.prog (Hw Pi):=
 okC (A:=⟨[Fg qo],[],[],0,[],[],[]⟩) (exS:=⟨[.bool],[]⟩) Tryz.f98 (memC pg zI) (by kernel_rfl) (by kernel_rfl) fun x=>by kernel_rfl
theorem KP:zx Tryz.prog (CF Vi):=
 okC (A:=⟨[],[],[],1,[],[],[]⟩) (exS:=⟨[.bool],[]⟩) Tryz.f247 zI (by kernel_rfl) (by kernel_rfl) fun x=>by kernel_rfl
theorem Kw:zx Tryz.prog (Kq Pf):=
 okC (A:=⟨[Lg qc,CF Vi,Wi qG],[],[],0,[(6,⟨[6],⟨[.int .i64],[]⟩,[1,2,3,5,7],[0],[],0,[6],⟨[.int .i64],[]⟩,[]⟩),(8,⟨[7],⟨[.int .i64],[]⟩,[1,2,3,5,6],[0],[],2,[7],⟨[.int .i64],[]⟩,[]⟩)],[],[]⟩) (exS:=⟨[.sl 132, .int .i64],[]⟩) Tryz.f196 (memC Oh (memC KP (memC SE zI))) (by kernel_rfl) (by kernel_rfl) fun x=>by kernel_rfl
theorem RO:zx Tryz.prog (IE Yk):=
 okC (A:=⟨[Z6 strings_IndexByte,Z5 strings_HasPrefix,Z0 Za],[],[],0,[],[],[]⟩) (exS:=⟨[.bool],[]⟩) Tryz.f92 (memC qD (memC qC (memC ZT zI))) (by kernel_rfl) (by kernel_rfl) fun x=>by kernel_rfl
theorem MS:zx Tryz.prog (wH stringslite_TrimPrefix):=
 okC (A:=⟨[JA stringslite_HasPrefix],[],[],0,[],[],[]⟩) (exS:=⟨[.str],[]⟩) Tryz.f310 (memC uH zI) (by kernel_rfl) (by kernel_rfl) fun x=>by kernel_rfl
theorem TR:zx Tryz.prog (BH strings_TrimPrefix):=
 okC (A:=⟨[wH stringslite_TrimPrefix],[],[],0,[],[],[]⟩) (exS:=⟨[.str],[]⟩) Tryz.f259 (memC MS zI) (by kernel_rfl) (by kernel_rfl) fun x=>by kernel_rfl
theorem MF:zx Tryz.prog (Tx Tk):=
 okC (A:=⟨[],[],[],0,[],[],[]⟩) (exS:=⟨[.bool],[]⟩) Tryz.f260 zI (by kernel_rfl) (by kernel_rfl) fun x=>by kernel_rfl
theorem sP:zx Tryz.prog (vF Rw):=
 okC (A:=⟨[BH strings_TrimPrefix,Tx Tk],[],[],0,[],[],[]⟩) (exS:=⟨[.bool],[]⟩) Tryz.f205 (memC TR (memC MF zI)) (by kernel_rfl) (by kernel_rfl) fun x=>by kernel_rfl
theorem MP:zx Tryz.prog (yF Bw):=
 okC (A:=⟨[],[],[],0,[],[],[]⟩) (exS:=⟨[.bool],[]⟩) Tryz.f261 zI (by kernel_rfl) (by kernel_rfl) fun x=>by kernel_rfl
theorem dN:zx Tryz.prog (iE Tv):=
 okC (A:=⟨[yF Bw,Tx Tk],[],[],0,[],[],[]⟩) (exS:=⟨[.bool],[]⟩) Tryz.f206 (memC MP (memC MF zI)) (by kernel_rfl) (by kernel_rfl) fun x=>by kernel_rfl
theorem oQ:zx Tryz.prog (pG strings_Contains):=
 okC (A:=⟨[Ep ae],[],[],0,[],[],[]⟩) (exS:=⟨[.bool],[]⟩) Tryz.f207 (memC Nv zI) (by kernel_rfl) (by kernel_rfl) fun x=>by kernel_rfl
theorem xM:zx Tryz.prog (rD Pp):=
 okC (A:=⟨[Z6 strings_IndexByte,vF Rw,Z5 strings_HasPrefix,iE Tv,pG strings_Contains],[],[],0,[],[(8,⟨[3,4,5,6,7,25],⟨[.bool, .bool, .bool, .bool, .bool, .bool],[]⟩,[1,16],[],[],0,[],⟨[],[]⟩,[]⟩),(14,⟨[3,4,5,6,7,63],⟨[.bool, .bool, .bool, .bool, .bool, .bool],[]⟩,[],[],[],0,[],⟨[],[]⟩,[]⟩),(22,⟨[4,5,6,7,94],⟨[.bool, .bool, .bool, .bool, .bool],[]⟩,[3],[],[],0,[],⟨[],[]⟩,[]⟩),(24,⟨[3,4,5,6,7],⟨[.bool, .bool, .bool, .bool, .bool],[]⟩,[1],[0],[],0,[],⟨[],[]⟩,[]⟩)],[]⟩) (exS:=⟨[.bool],[]⟩) Tryz.f147 (memC qD (memC sP (memC qC (memC dN (memC oQ zI))))) (by kernel_rfl) (by kernel_rfl) fun x=>by kernel_rfl
theorem rP:zx Tryz.prog (uF Kg):=
 okC (A:=⟨[],[],[],1,[],[],[]⟩) (exS:=⟨[.bool],[]⟩) Tryz.f208 zI (by kernel_rfl) (by kernel_rfl) fun x=>by kernel_rfl
theorem bN:zx Tryz.prog (fE Sk):=
 okC (A:=⟨[uF Kg,Q0 Zy],[],[],0,[],[(11,⟨[5],⟨[.int .i64],[]⟩,[3],[0],[],0,[],⟨[],[]⟩,[]⟩)],[]⟩) (exS:=⟨[.int .i64],[]⟩) Tryz.f148 (memC rP (memC Jh zI)) (by kernel_rfl) (by kernel_rfl) fun x=>by kernel_rfl
theorem OO:zx Tryz.prog (EE Uk):=
 okC (A:=⟨[rD Pp,fE Sk],[],[],0,[(4,⟨[10],⟨[.int .i64],[]⟩,[0,8,9],[],[],0,[],⟨[],[]⟩,[]⟩)],[],[]⟩) (exS:=⟨[.int .i64],[]⟩) Tryz.f93 (memC xM (memC bN zI)) (by kernel_rfl) (by kernel_rfl) fun x=>by kernel_rfl
theorem yP(zD:List ze->Option Bool)(h_decl_closers:zx Tryz.prog (Qz zD)):zx Tryz.prog (bG (Em zD)):=
 okC (A:=⟨[Fg qo,Qz zD],[],[],0,[],[],[]⟩) (exS:=⟨[.bool],[]⟩) Tryz.f149 (memC pg (memC h_decl_closers zI)) (by kernel_rfl) (by kernel_rfl) fun x=>by kernel_rfl
theorem vS(zD:List ze->Option Bool)(h_decl_closers:zx Tryz.prog (Qz zD)):zx Tryz.prog (MI (qi zD)):=
 okC (A:=⟨[bG (Em zD)],[],[],0,[(2,⟨[8],⟨[.int .i64],[]⟩,[0,1,7],[],[],0,[],⟨[],[]⟩,[]⟩)],[],[]⟩) (exS:=⟨[.int .i64],[]⟩) Tryz.f133 (memC (yP zD h_decl_closers) zI) (by kernel_rfl) (by kernel_rfl) fun x=>by kernel_rfl
theorem lT(zD:List ze->Option Bool)(h_decl_closers:zx Tryz.prog (Qz zD)):zx Tryz.prog (GI (ZV zD)):=
 okC (A:=⟨[MI (qi zD)],[],[],0,[],[],[]⟩) (exS:=⟨[.bool],[]⟩) Tryz.f95 (memC (vS zD h_decl_closers) zI) (by kernel_rfl) (by kernel_rfl) fun x=>by kernel_rfl
theorem rO(zD:List ze->Option Bool)(hs:zx Tryz.prog (Qz zD)):zx Tryz.prog (Qz (Dm zD)):=
 okC (A:=⟨[GI (ZV zD)],[],[],0,[],[],[]⟩) (exS:=⟨[.bool],[]⟩) Tryz.f94 (memC (lT zD hs) zI) (by kernel_rfl) (by kernel_rfl) fun x=>by kernel_rfl
theorem uP:zx Tryz.prog (Qz zD):=
 zx.recE (I:=I) (P:=Tryz.prog) (f:=94) (inS:=⟨[.sl 132],[]⟩) (cst:=[]) (outS:=⟨[.bool],[]⟩) (k:=0) (Dm) (by kernel_rfl) (fun S h=>rO S h)
theorem VP:zx Tryz.prog (wF Uq):=
 okC (A:=⟨[Fg qo,Hw Pi],[],[],0,[],[],[]⟩) (exS:=⟨[.bool],[]⟩) Tryz.f96 (memC pg (memC VE zI)) (by kernel_rfl) (by kernel_rfl) fun x=>by kernel_rfl
theorem uS:zx Tryz.prog (KI qj):=
 okC (A:=⟨[wF Uq],[],[],0,[(2,⟨[8],⟨[.int .i64],[]⟩,[0,1,7],[],[],0,[],⟨[],[]⟩,[]⟩)],[],[]⟩) (exS:=⟨[.int .i64],[]⟩) Tryz.f133 (memC VP zI) (by kernel_rfl) (by kernel_rfl) fun x=>by kernel_rfl
theorem GU:zx Tryz.prog (YI ZF):=
 okC (A:=⟨[KI qj],[],[],0,[],[],[]⟩) (exS:=⟨[.bool],[]⟩) Tryz.f95 (memC uS zI) (by kernel_rfl) (by kernel_rfl) fun x=>by kernel_rfl
theorem lw:zx Tryz.prog (Oq Yf):=
 okC (A:=⟨[Gw lg,IE Yk,EE Uk,Qz zD,YI ZF,Z5 strings_HasPrefix,Fg qo],[],[],0,[],[],[]⟩) (exS:=⟨[.int .i64],[]⟩) Tryz.f50 (memC UE (memC RO (memC OO (memC uP (memC GU (memC qC (memC pg zI))))))) (by kernel_rfl) (by kernel_rfl) fun x=>by kernel_rfl
theorem CE:zx Tryz.prog (bv kg):=
 okC (A:=⟨[sD og,FE ug,Fg qo,Z5 strings_HasPrefix,Z0 Za,Q0 Zy,Hw Pi,Kq Pf,Oq Yf],[],[],0,[],[(7,⟨[0],⟨[.sl 132],[(0, .cells 33 [.str, .nilv, .bool]),(1, .cells 33 [.str, .nilv, .bool])]⟩,[2,4],[],[0,1],0,[],⟨[],[]⟩,[]⟩),(16,⟨[0],⟨[.sl 132],[(0, .cells 33 [.str, .nilv, .bool]),(1, .cells 33 [.str, .nilv, .bool])]⟩,[],[],[0,1],0,[],⟨[],[]⟩,[]⟩)],[]⟩) (exS:=⟨[.optr 0, .bool],[(0, .row 33)]⟩) Tryz.f245 (memC yM (memC PO (memC pg (memC qC (memC ZT (memC Jh (memC VE (memC Kw (memC lw zI))))))))) (by kernel_rfl) (by kernel_rfl) fun x=>by kernel_rfl
theorem IM:zx Tryz.prog (GD Xj):=
 okC (A:=⟨[Mq Uf,bv kg],[(10,[2])],[],0,[(6,⟨[6,21],⟨[.own 1432, .int .i64],[(1432, .sl 33)]⟩,[2,3,19,20],[],[],0,[6],⟨[.own 1432],[(1432, .sl 33)]⟩,[1432]⟩)],[(11,⟨[6,21],⟨[.own 1534, .int .i64],[(1534, .sl 33)]⟩,[],[],[],0,[],⟨[],[]⟩,[]⟩)],[]⟩) (exS:=⟨[.sl 33, .int .i64],[]⟩) Tryz.f194 (memC jw (memC CE zI)) (by kernel_rfl) (by kernel_rfl) fun x=>by kernel_rfl
theorem xO:zx Tryz.prog (rE Gl):=
 okC (A:=⟨[dE Pk,GD Xj],[],[],0,[],[],[]⟩) (exS:=⟨[.optr 0, .bool],[(0, .row 39)]⟩) Tryz.f136 (memC aN (memC IM zI)) (by kernel_rfl) (by kernel_rfl) fun x=>by kernel_rfl
theorem NG:zx Tryz.prog (xy Uh):=
 okC (A:=⟨[Z6 strings_IndexByte],[],[],0,[],[],[]⟩) (exS:=⟨[.bool],[]⟩) Tryz.f83 (memC qD zI) (by kernel_rfl) (by kernel_rfl) fun x=>by kernel_rfl
theorem UT:zx Tryz.prog (SI qz):=
 okC (A:=⟨[xy Uh],[],[],1,[(2,⟨[8],⟨[.int .i64],[]⟩,[0,1,7],[],[],0,[],⟨[],[]⟩,[]⟩)],[],[]⟩) (exS:=⟨[.int .i64],[]⟩) Tryz.f140 (memC NG zI) (by kernel_rfl) (by kernel_rfl) fun x=>by kernel_rfl
theorem aT:zx Tryz.prog (JI ZK):=
 okC (A:=⟨[SI qz],[],[],1,[],[],[]⟩) (exS:=⟨[.bool],[]⟩) Tryz.f82 (memC UT zI) (by kernel_rfl) (by kernel_rfl) fun x=>by kernel_rfl
theorem yO:zx Tryz.prog (uE Hl):=
 okC (A:=⟨[JI ZK],[],[],1,[],[],[]⟩) (exS:=⟨[.bool],[]⟩) Tryz.f45 (memC aT zI) (by kernel_rfl) (by kernel_rfl) fun x=>by kernel_rfl
theorem VN:zx Tryz.prog (YE ak):=
 okC (A:=⟨[Kq Pf,uE Hl],[(14,[3])],[],0,[(6,⟨[5,24],⟨[.own 1536, .int .i64],[(1536, .sl 9)]⟩,[22,23],[],[],0,[5],⟨[.own 1536],[(1536, .sl 9)]⟩,[1536]⟩)],[(15,⟨[5,24],⟨[.own 1638, .int .i64],[(1638, .sl 9)]⟩,[],[],[],0,[],⟨[],[]⟩,[]⟩)],[]⟩) (exS:=⟨[.sl 9, .bool],[]⟩) Tryz.f197 (memC Kw (memC yO zI)) (by kernel_rfl) (by kernel_rfl) fun x=>by kernel_rfl
theorem aF:zx Tryz.prog (Oy Dh):=
 okC (A:=⟨[Mq Uf,Kq Pf,YE ak],[(16,[3])],[],0,[(11,⟨[42],⟨[.int .i64],[(0, .cells 39 [.int .u8, .nilv, .nilv, .int .u8, .str, .int .i64, .str, .nilv, .bool, .nilv, .nilv, .nilv]),(1, .cells 39 [.int .u8, .nilv, .nilv, .int .u8, .str, .int .i64, .str, .nilv, .bool, .nilv, .own 1639, .nilv]),(1639, .sl 74)]⟩,[40,41],[],[0,1],0,[],⟨[],[(0, .cells 39 [.int .u8, .nilv, .nilv, .int .u8, .str, .int .i64, .str, .nilv, .bool, .nilv, .nilv, .nilv]),(1, .cells 39 [.int .u8, .nilv, .nilv, .int .u8, .str, .int .i64, .str, .nilv, .bool, .nilv, .own 1639, .nilv]),(1639, .sl 74)]⟩,[0,1,1639]⟩)],[(10,⟨[],⟨[],[(0, .cells 39 [.int .u8, .nilv, .nilv, .int .u8, .str, .int .i64, .str, .nilv, .bool, .nilv, .nilv, .nilv]),(1, .cells 39 [.int .u8, .nilv, .nilv, .int .u8, .str, .int .i64, .str, .nilv, .bool, .nilv, .nilv, .nilv])]⟩,[1,4,6,8],[],[0,1],0,[],⟨[],[]⟩,[]⟩)],[]⟩) (exS:=⟨[.optr 0, .bool],[(0, .row 39)]⟩) Tryz.f137 (memC jw (memC Kw (memC VN zI))) (by kernel_rfl) (by kernel_rfl) fun x=>by kernel_rfl
theorem QI:zx Tryz.prog (Qj zN):=
 okC (A:=⟨[],[],[],1,[],[],[]⟩) (exS:=⟨[.int .u8],[]⟩) Tryz.f248 zI (by kernel_rfl) (by kernel_rfl) fun x=>by kernel_rfl
theorem QJ:zx Tryz.prog (Qk zO):=
 okC (A:=⟨[],[],[],1,[],[],[]⟩) (exS:=⟨[.optr 1],[(0, .row 251),(1, .row 132)]⟩) Tryz.f249 zI (by kernel_rfl) (by kernel_rfl) fun x=>by kernel_rfl
theorem Nr:zx Tryz.prog (Qs zJ):=
 okC (A:=⟨[Qj zN,Qk zO],[],[],1,[(2,⟨[],⟨[],[(0, .row 251)]⟩,[0,2,3],[],[0],0,[],⟨[],[(0, .row 251)]⟩,[0]⟩)],[],[]⟩) (exS:=⟨[.bool],[(0, .row 251)]⟩) Tryz.f198 (memC QI (memC QJ zI)) (by kernel_rfl) (by kernel_rfl) fun x=>by kernel_rfl
theorem Nz:zx Tryz.prog (Ir Zt):=
 okC (A:=⟨[Qj zN,Q0 Zy,Qk zO],[],[],1,[(2,⟨[9],⟨[.int .i64],[(0, .row 251)]⟩,[0,7,8],[],[0],0,[],⟨[],[(0, .row 251)]⟩,[0]⟩)],[],[]⟩) (exS:=⟨[.str],[(0, .row 251)]⟩) Tryz.f250 (memC QI (memC Jh (memC QJ zI))) (by kernel_rfl) (by kernel_rfl) fun x=>by kernel_rfl
theorem PS:zx Tryz.prog (kH slices_Contains_string):=
 okC (A:=⟨[Q4 slices_Index_string],[],[],0,[],[],[]⟩) (exS:=⟨[.bool],[]⟩) Tryz.f262 (memC dz zI) (by kernel_rfl) (by kernel_rfl) fun x=>by kernel_rfl
theorem fF:zx Tryz.prog (Sy Fh):=
 okC (A:=⟨[kH slices_Contains_string,Z0 Za,Z6 strings_IndexByte],[(1,[0])],[],0,[],[],[]⟩) (exS:=⟨[.bool],[]⟩) Tryz.f210 (memC PS (memC ZT (memC qD zI))) (by kernel_rfl) (by kernel_rfl) fun x=>by kernel_rfl
theorem NP:zx Tryz.prog (BG Al):=
 okC (A:=⟨[],[],[],0,[(2,⟨[7],⟨[.int .i64],[]⟩,[5,6],[],[],0,[],⟨[],[]⟩,[]⟩)],[],[]⟩) (exS:=⟨[.int .i64],[]⟩) Tryz.f263 zI (by kernel_rfl) (by kernel_rfl) fun x=>by kernel_rfl
theorem eF:zx Tryz.prog (Ry Eh):=
 okC (A:=⟨[BG Al],[(1,[1])],[],0,[],[],[]⟩) (exS:=⟨[.int .i64],[]⟩) Tryz.f211 (memC NP zI) (by kernel_rfl) (by kernel_rfl) fun x=>by kernel_rfl
theorem xR:zx Tryz.prog (fH qL):=
 okC (A:=⟨[Qj zN,Qk zO,Qs zJ,Ir Zt,Q0 Zy,Ry Eh],[(6,[1])],[],1,[],[(11,⟨[],⟨[],[(1, .cells 36 [.int .u8, .str, .int .i64, .str, .nilv, .bool, .nilv]),(2, .row 251),(3, .cells 36 [.int .u8, .str, .int .i64, .str, .nilv, .bool, .nilv])]⟩,[2,4,5],[0],[1,2,3],0,[],⟨[],[]⟩,[]⟩)],[]⟩) (exS:=⟨[.optr 1, .bool],[(0, .row 251),(1, .row 36)]⟩) Tryz.f251 (memC QI (memC QJ (memC Nr (memC Nz (memC Jh (memC eF zI)))))) (by kernel_rfl) (by kernel_rfl) fun x=>by kernel_rfl
end Go.Lv.VT
end
