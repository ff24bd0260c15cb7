/- Contracts. -/
import Derived.Test.YtanfjibdgcalfaaGreatDoorTx
import Derived.Test.YtanfjibdgcalfaaGreatDoorIp
import Derived.Test.YtanfjibdgcalfaaGreatDoorLf
import Derived.Test.YtanfjibdgcalfaaGreatDoorPa
import Derived.Test.YtanfjibdgcalfaaGreatDoorCw
noncomputable section
set_option linter.unusedSimpArgs false
set_option linter.unusedVariables false
namespace Go.Lv.VT
set_option maxRecDepth 100000
open Go.Proofs
theorem alt2 {T U V W:Type} {A B:T->Option U} {t:Option V} {c:V->Bool} {p:V->Option W} {d:W->Bool} {x:T} {y:U}
  (h:(za t fun v=>bif c v then za (A x) fun z=>some z else za (p v) fun w=>bif d w then za (A x) fun z=>some z else za (B x) fun z=>some z)=some y): ∃n:Bool,(cond n A B) x=some y:=by
 have key: ∀o:Option U,za o (fun z=>some z)=some y->o=some y:=fun o=>by cases o<;>exact id
 cases t with
 |none=>cases h
 |some v=>
  replace h:(bif c v then za (A x) fun z=>some z else za (p v) fun w=>bif d w then za (A x) fun z=>some z else za (B x) fun z=>some z)=some y:=h;cases hc:c v<;>rw[hc]at h
  ·replace h:(za (p v) fun w=>bif d w then za (A x) fun z=>some z else za (B x) fun z=>some z)=some y:=h;cases hp:p v with
   |none=>rw[hp]at h;cases h
   |some w=>
    rw[hp]at h;replace h:(bif d w then za (A x) fun z=>some z else za (B x) fun z=>some z)=some y:=h;cases hd:d w<;>rw[hd]at h
    ·exact⟨false,key _ h⟩
    ·exact⟨true,key _ h⟩
  ·exact⟨true,key _ h⟩
theorem okC{con:Con I}{A:Env0 I}{exS:StSh}(f:Go.Func)(hS: ∀c∈A.S,zg Tryz.prog c)(hf:Tryz.prog.funcs[con.f]? =some f)(h:chk con A f=true)(he: ∀x,evF2 A T FK f.ntmps (rsl f) (body f) con exS x=con.F x):zg Tryz.prog con:=
 okC0 mixed ipOK tok rfl rfl hS hf h he
def Q7(F:Str×Str->Option Bool):Con I:=⟨154,⟨[.str, .str],[]⟩,[],⟨[.bool],[]⟩,0,F⟩
def Zm(F:Str×Str->Option Bool):Con I:=⟨97,⟨[.str, .str],[]⟩,[],⟨[.bool],[]⟩,0,F⟩
def sJ(F:zb->Option zb):Con I:=⟨135,⟨[.optr 0],[(0, .row 192)]⟩,[],⟨[],[(0, .row 192)]⟩,0,F⟩
def zM(F:Int×zb->Option Int):Con I:=⟨183,⟨[.optr 0, .int .i64],[(0, .row 192)]⟩,[0],⟨[.int .i64],[]⟩,0,F⟩
def Bj(F:Int->Option Bool):Con I:=⟨184,⟨[.int .i64],[]⟩,[],⟨[.bool],[]⟩,0,F⟩
def Qi(F:zb->Option zb):Con I:=⟨185,⟨[.optr 0, .clo 184 []],[(0, .row 192)]⟩,[],⟨[],[(0, .row 192)]⟩,0,F⟩
def BK(F:Int->Option (List UInt8)):Con I:=⟨314,⟨[.nilv, .int .i32],[]⟩,[],⟨[.own 0],[(0, .sl 5)]⟩,1,F⟩
def bI(F:Int->Option (List UInt8)):Con I:=⟨283,⟨[.nilv, .int .i32],[]⟩,[],⟨[.own 0],[(0, .sl 5)]⟩,1,F⟩
def om(F:Int×Int×Int->Option Bool):Con I:=⟨285,⟨[.int .i64, .int .i64, .int .i64],[]⟩,[],⟨[.bool],[]⟩,0,F⟩
def Cj(F:Int->Option Bool):Con I:=⟨240,⟨[.int .i64],[]⟩,[],⟨[.bool],[]⟩,0,F⟩
def Yw(F:Int->Option Int):Con I:=⟨284,⟨[.int .i64],[]⟩,[],⟨[.int .i64],[]⟩,0,F⟩
def mJ(F:zb->Option (zb×List UInt8)):Con I:=⟨238,⟨[.optr 0, .nilv],[(0, .row 192)]⟩,[],⟨[.own 1],[(0, .row 192),(1, .sl 5)]⟩,1,F⟩
def yJ(F:Int×List UInt8->Option (List UInt8)):Con I:=⟨314,⟨[.own 0, .int .i32],[(0, .sl 5)]⟩,[],⟨[.own 1],[(1, .sl 5)]⟩,1,F⟩
def aI(F:Int×List UInt8->Option (List UInt8)):Con I:=⟨283,⟨[.own 0, .int .i32],[(0, .sl 5)]⟩,[],⟨[.own 1],[(1, .sl 5)]⟩,1,F⟩
def qg(F:zb×List UInt8->Option (zb×List UInt8)):Con I:=⟨238,⟨[.optr 0, .own 1],[(0, .row 192),(1, .sl 5)]⟩,[],⟨[.own 2],[(0, .row 192),(2, .sl 5)]⟩,1,F⟩
def XJ(F:zb->Option (zt×zb)):Con I:=⟨186,⟨[.optr 0],[(0, .row 192)]⟩,[],⟨[.val 131],[(0, .row 192)]⟩,0,F⟩
def Oy(F:Int->Option Bool):Con I:=⟨239,⟨[.int .i64],[]⟩,[],⟨[.bool],[]⟩,0,F⟩
def Dz(F:Int->Option Bool):Con I:=⟨187,⟨[.int .i64],[]⟩,[],⟨[.bool],[]⟩,0,F⟩
def ZK(F:Int×zb->Option Bool):Con I:=⟨188,⟨[.optr 0, .int .i64],[(0, .row 192)]⟩,[0],⟨[.bool],[]⟩,0,F⟩
def SA(F:Int×zb->Option Bool):Con I:=⟨189,⟨[.optr 0, .int .i64],[(0, .row 192)]⟩,[0],⟨[.bool],[]⟩,0,F⟩
def QE(F:zb->Option (Str×zb)):Con I:=⟨190,⟨[.optr 0],[(0, .row 192)]⟩,[],⟨[.str],[(0, .row 192)]⟩,0,F⟩
def YJ(F:zb->Option Bool):Con I:=⟨191,⟨[.optr 0],[(0, .row 192)]⟩,[0],⟨[.bool],[]⟩,0,F⟩
def KJ(F:zb->Option zb):Con I:=⟨185,⟨[.optr 0, .clo 240 []],[(0, .row 192)]⟩,[],⟨[],[(0, .row 192)]⟩,0,F⟩
def MJ(F:zb->Option (Bool×zb)):Con I:=⟨241,⟨[.optr 0],[(0, .row 192)]⟩,[],⟨[.bool],[(0, .row 192)]⟩,0,F⟩
def dI(F:Str->Option Int):Con I:=⟨242,⟨[.str],[]⟩,[],⟨[.int .i64],[]⟩,0,F⟩
def LJ(F:zb->Option (zt×zb)):Con I:=⟨192,⟨[.optr 0],[(0, .row 192)]⟩,[],⟨[.val 131],[(0, .row 192)]⟩,0,F⟩
def ZO(F:Str->Option Str):Con I:=⟨76,⟨[.str],[]⟩,[],⟨[.str],[]⟩,0,F⟩
def Qe(F:Str×Str->Option Bool):Con I:=⟨211,⟨[.str, .str],[]⟩,[],⟨[.bool],[]⟩,0,F⟩
def gI(F:zb->Option (zt×zb)):Con I:=⟨289,⟨[.optr 0],[(0, .row 192)]⟩,[],⟨[.val 131],[(0, .row 192)]⟩,0,F⟩
def fI(F:zb->Option (zt×zb)):Con I:=⟨243,⟨[.optr 0],[(0, .row 192)]⟩,[],⟨[.val 131],[(0, .row 192)]⟩,0,F⟩
def lI(F:zb->Option (zt×zb)):Con I:=⟨193,⟨[.optr 0],[(0, .row 192)]⟩,[],⟨[.val 131],[(0, .row 192)]⟩,0,F⟩
def Zn(F:Str×Int->Option Int):Con I:=⟨82,⟨[.str, .int .u8],[]⟩,[],⟨[.int .i64],[]⟩,0,F⟩
def JJ(F:zb->Option (zt×zb)):Con I:=⟨136,⟨[.optr 0],[(0, .row 192)]⟩,[],⟨[.val 131],[(0, .row 192)]⟩,0,F⟩
def EI(F:(zt×Int×Int)×List zt->Option (List zt)):Con I:=⟨72,⟨[.val 131, .int .i64, .int .i64, .optr 0],[(0, .cells 90 [.own 1]),(1, .sl 131)]⟩,[],⟨[],[(0, .cells 90 [.own 2]),(2, .sl 131)]⟩,1,F⟩
def JH(F:Str->Option (Int×List zt)):Con I:=⟨71,⟨[.str, .clo 72 [0]],[(0, .cells 90 [.nilv])]⟩,[],⟨[.int .i64],[(0, .cells 90 [.own 1]),(1, .sl 131)]⟩,1,F⟩
def Wq(F:Str->Option (List zt×Int)):Con I:=⟨38,⟨[.str],[]⟩,[],⟨[.sl 131, .int .i64],[]⟩,0,F⟩
def pF(F:List ze->Option Int):Con I:=⟨75,⟨[.sl 135],[]⟩,[],⟨[.int .u8],[]⟩,0,F⟩
def yI(F:Int×List UInt8->Option Int):Con I:=⟨194,⟨[.own 0, .int .u8],[(0, .sl 5)]⟩,[0],⟨[.int .i64],[]⟩,0,F⟩
def TJ(F:Int×List UInt8->Option Bool):Con I:=⟨139,⟨[.own 0, .int .u8],[(0, .sl 5)]⟩,[0],⟨[.bool],[]⟩,0,F⟩
def nH(F:ze×List UInt8->Option Bool):Con I:=⟨138,⟨[.val 135, .optr 0],[(0, .cells 42 [.own 1]),(1, .sl 5)]⟩,[0,1],⟨[.bool],[]⟩,0,F⟩
def vJ(F:List ze×List UInt8->Option Int):Con I:=⟨137,⟨[.sl 135, .clo 138 [0]],[(0, .cells 42 [.own 1]),(1, .sl 5)]⟩,[0,1],⟨[.int .i64],[]⟩,0,F⟩
def OG(F:List ze×List UInt8->Option (List ze×List ze)):Con I:=⟨77,⟨[.sl 135, .own 0],[(0, .sl 5)]⟩,[0],⟨[.sl 135, .sl 135],[]⟩,0,F⟩
def fq(F:Int->Option Int):Con I:=⟨74,⟨[.int .u8],[]⟩,[],⟨[.int .u8],[]⟩,0,F⟩
def si(F:List ze×Int->Option Zj):Con I:=⟨88,⟨[.sl 135, .int .u8],[]⟩,[],⟨[.val 155],[]⟩,0,F⟩
def Qf(F:List ze->Option Int):Con I:=⟨87,⟨[.sl 135],[]⟩,[],⟨[.int .i64],[]⟩,0,F⟩
def ZT(F:Int×zm->Option zt):Con I:=⟨325,⟨[.optr 0, .int .i64],[(0, .row 363)]⟩,[0],⟨[.val 131],[]⟩,0,F⟩
def qG(F:zm->Option (Bool×zm)):Con I:=⟨323,⟨[.optr 0],[(0, .row 363)]⟩,[],⟨[.bool],[(0, .row 363)]⟩,0,F⟩
def Qg(F:Str×zm->Option (Bool×zm)):Con I:=⟨326,⟨[.optr 0, .str],[(0, .row 363)]⟩,[],⟨[.bool],[(0, .row 363)]⟩,0,F⟩
def sI(F:zm->Option (Int×zm)):Con I:=⟨324,⟨[.optr 0],[(0, .row 363)]⟩,[],⟨[.int .u8],[(0, .row 363)]⟩,0,F⟩
def pI(F:Int×zm->Option (List ze)):Con I:=⟨348,⟨[.optr 0, .int .i64],[(0, .row 363)]⟩,[0],⟨[.sl 135],[]⟩,0,F⟩
def OB(F:zm->Option Bool):Con I:=⟨328,⟨[.optr 0],[(0, .row 363)]⟩,[0],⟨[.bool],[]⟩,0,F⟩
def NH(F:List ze->Option (zC×Bool)):Con I:=⟨347,⟨[.sl 135],[]⟩,[],⟨[.val 72, .bool],[]⟩,0,F⟩
def iq(F:Unit->Option (List Str)):Con I:=⟨272,⟨[],[]⟩,[],⟨[.sl 9],[]⟩,0,F⟩
def Qh(F:List Str×Str->Option Int):Con I:=⟨296,⟨[.sl 9, .str],[]⟩,[],⟨[.int .i64],[]⟩,0,F⟩
def MH(F:Str->Option (zC×Bool)):Con I:=⟨349,⟨[.str],[]⟩,[],⟨[.val 72, .bool],[]⟩,0,F⟩
def rH(F:ze->Option Bool):Con I:=⟨404,⟨[.val 135],[]⟩,[],⟨[.bool],[]⟩,0,F⟩
def gJ(F:List ze->Option Int):Con I:=⟨137,⟨[.sl 135, .clo 404 []],[]⟩,[],⟨[.int .i64],[]⟩,0,F⟩
def Cr(F:zh×Int->Option (zh×Bool)):Con I:=⟨255,⟨[.val 151, .int .u8],[]⟩,[],⟨[.val 151, .bool],[]⟩,0,F⟩
def Wm(F:List ze×List zt->Option (List zt)):Con I:=⟨150,⟨[.own 0, .sl 135],[(0, .sl 131)]⟩,[],⟨[.own 1],[(1, .sl 131)]⟩,1,F⟩
def VG(F:List ze->Option (List zt)):Con I:=⟨150,⟨[.nilv, .sl 135],[]⟩,[],⟨[.own 0],[(0, .sl 131)]⟩,1,F⟩
def dw(F:List ze->Option (List zt×Int)):Con I:=⟨89,⟨[.sl 135],[]⟩,[],⟨[.sl 131, .int .i64],[]⟩,0,F⟩
def jy(F:Str×Int->Option Bool):Con I:=⟨257,⟨[.str, .int .i64],[]⟩,[],⟨[.bool],[]⟩,0,F⟩
def Jz(F:Str->Option Bool):Con I:=⟨253,⟨[.str],[]⟩,[],⟨[.bool],[]⟩,0,F⟩
def Iz(F:Str->Option Bool):Con I:=⟨205,⟨[.str],[]⟩,[],⟨[.bool],[]⟩,0,F⟩
def sH(F:zC->Option (Bool×Bool)):Con I:=⟨254,⟨[.val 72],[]⟩,[],⟨[.bool, .bool],[]⟩,0,F⟩
def CG(F:Int->Option Bool):Con I:=⟨294,⟨[.int .i64],[]⟩,[],⟨[.bool],[]⟩,0,F⟩
def sw(F:VAnb->Option Int):Con I:=⟨258,⟨[.val 70],[]⟩,[],⟨[.int .i64],[]⟩,0,F⟩
def OI(F:zA×zh->Option Bool):Con I:=⟨148,⟨[.val 65, .optr 0],[(0, .row 151)]⟩,[0],⟨[.bool],[]⟩,0,F⟩
def EK(F:List zA×zh->Option Int):Con I:=⟨204,⟨[.sl 65, .clo 148 [0]],[(0, .row 151)]⟩,[0],⟨[.int .i64],[]⟩,0,F⟩
def QY(F:List zA×zh->Option Bool):Con I:=⟨147,⟨[.sl 65, .clo 148 [0]],[(0, .row 151)]⟩,[0],⟨[.bool],[]⟩,0,F⟩
def Hz(F:zu×zh×Bool->Option Bool):Con I:=⟨85,⟨[.val 68, .val 151, .bool],[]⟩,[],⟨[.bool],[]⟩,0,F⟩
def GI(F:zu×zh×zC->Option Bool):Con I:=⟨256,⟨[.val 68, .optr 0, .optr 1],[(0, .row 151),(1, .row 72)]⟩,[0,1],⟨[.bool],[]⟩,0,F⟩
def iJ(F:List zu×zh×zC->Option Int):Con I:=⟨146,⟨[.sl 68, .clo 256 [0,1]],[(0, .row 151),(1, .row 72)]⟩,[0,1],⟨[.int .i64],[]⟩,0,F⟩
def xJ(F:List zu×zh×zC->Option Bool):Con I:=⟨83,⟨[.sl 68, .clo 256 [0,1]],[(0, .row 151),(1, .row 72)]⟩,[0,1],⟨[.bool],[]⟩,0,F⟩
def lH(F:zC×zh->Option Bool):Con I:=⟨206,⟨[.val 72, .val 151],[]⟩,[],⟨[.bool],[]⟩,0,F⟩
def Zc(F:zA×zh->Option Bool):Con I:=⟨149,⟨[.val 65, .val 151],[]⟩,[],⟨[.bool],[]⟩,0,F⟩
def TG(F:zC×List ze×zh->Option (zC×Bool)):Con I:=⟨381,⟨[.val 72, .sl 135, .val 151],[]⟩,[],⟨[.val 72, .bool],[]⟩,0,F⟩
def II(F:Str×List ze×zh->Option (zC×Bool)):Con I:=⟨350,⟨[.str, .sl 135, .val 151],[]⟩,[],⟨[.val 72, .bool],[]⟩,0,F⟩
def lJ(F:zh×zm->Option ((List zC×Bool)×zm)):Con I:=⟨327,⟨[.optr 0, .val 151],[(0, .row 363)]⟩,[],⟨[.sl 72, .bool],[(0, .row 363)]⟩,0,F⟩
def UI(F:List ze×zh×Bool->Option (zu×Bool)):Con I:=⟨290,⟨[.sl 135, .val 151, .bool],[]⟩,[],⟨[.val 68, .bool],[]⟩,0,F⟩
def ZM(F:List ze×zh×Bool×Bool->Option (List zu×Bool)):Con I:=⟨244,⟨[.sl 135, .val 151, .bool, .bool],[]⟩,[],⟨[.sl 68, .bool],[]⟩,0,F⟩
def QJ(F:List zu->Option Int):Con I:=⟨86,⟨[.sl 68],[]⟩,[],⟨[.int .i64],[]⟩,0,F⟩
def rF(F:List ze->Option (List zu×Int)):Con I:=⟨195,⟨[.sl 135],[]⟩,[],⟨[.sl 68, .int .i64],[]⟩,0,F⟩
def QD(F:List ze->Option (List ze)):Con I:=⟨170,⟨[.sl 135],[]⟩,[],⟨[.own 0],[(0, .sl 135)]⟩,1,F⟩
def ni(F:List ze->Option (List ze)):Con I:=⟨246,⟨[.sl 135],[]⟩,[],⟨[.sl 135],[]⟩,0,F⟩
def Pq(F:List ze×Int->Option (List (List ze)×Int)):Con I:=⟨197,⟨[.sl 135, .int .u8],[]⟩,[],⟨[.sl 31, .int .i64],[]⟩,0,F⟩
def ig(F:ze×Int->Option Bool):Con I:=⟨95,⟨[.val 135, .int .u8],[]⟩,[],⟨[.bool],[]⟩,0,F⟩
def aF(F:List ze->Option (List ze)):Con I:=⟨292,⟨[.sl 135],[]⟩,[],⟨[.sl 135],[]⟩,0,F⟩
def uF(F:List ze->Option (List ze)):Con I:=⟨291,⟨[.sl 135],[]⟩,[],⟨[.sl 135],[]⟩,0,F⟩
def iw(F:ze->Option Bool):Con I:=⟨96,⟨[.val 135],[]⟩,[],⟨[.bool],[]⟩,0,F⟩
def WG(F:Int×List ze->Option Bool):Con I:=⟨247,⟨[.int .i64, .optr 0],[(0, .row 31)]⟩,[0],⟨[.bool],[]⟩,0,F⟩
def Jq(F:List ze->Option (List ze×Int)):Con I:=⟨198,⟨[.sl 135],[]⟩,[],⟨[.sl 135, .int .i64],[]⟩,0,F⟩
def vF(F:Str->Option Bool):Con I:=⟨90,⟨[.str],[]⟩,[],⟨[.bool],[]⟩,0,F⟩
def uJ(F:Str×Str->Option Str):Con I:=⟨295,⟨[.str, .str],[]⟩,[],⟨[.str],[]⟩,0,F⟩
def xI(F:Str×Str->Option Str):Con I:=⟨259,⟨[.str, .str],[]⟩,[],⟨[.str],[]⟩,0,F⟩
def Ej(F:Int->Option Bool):Con I:=⟨260,⟨[.int .u8],[]⟩,[],⟨[.bool],[]⟩,0,F⟩
def Xq(F:Str->Option Bool):Con I:=⟨207,⟨[.str],[]⟩,[],⟨[.bool],[]⟩,0,F⟩
def Wy(F:Int->Option Bool):Con I:=⟨261,⟨[.int .u8],[]⟩,[],⟨[.bool],[]⟩,0,F⟩
def Sq(F:Int->Option Bool):Con I:=⟨208,⟨[.int .u8],[]⟩,[],⟨[.bool],[]⟩,0,F⟩
def FI(F:Str×Str->Option Bool):Con I:=⟨209,⟨[.str, .str],[]⟩,[],⟨[.bool],[]⟩,0,F⟩
def fw(F:zt->Option Bool):Con I:=⟨151,⟨[.val 131],[]⟩,[],⟨[.bool],[]⟩,0,F⟩
def SH(F:(Int×Int)×List zt->Option Bool):Con I:=⟨210,⟨[.int .i64, .int .u8, .optr 0],[(0, .row 90)]⟩,[0],⟨[.bool],[]⟩,0,F⟩
def Yx(F:List zt->Option Int):Con I:=⟨152,⟨[.sl 131],[]⟩,[],⟨[.int .i64],[]⟩,0,F⟩
def dx(F:List zt->Option Int):Con I:=⟨91,⟨[.sl 131],[]⟩,[],⟨[.int .i64],[]⟩,0,F⟩
def mH(F:ze->Option Bool):Con I:=⟨153,⟨[.val 135],[]⟩,[],⟨[.bool],[]⟩,0,F⟩
def fJ(F:List ze->Option Int):Con I:=⟨137,⟨[.sl 135, .clo 153 []],[]⟩,[],⟨[.int .i64],[]⟩,0,F⟩
def GK(F:List ze->Option Bool):Con I:=⟨93,⟨[.sl 135, .clo 153 []],[]⟩,[],⟨[.bool],[]⟩,0,F⟩
def qM(F:List ze->Option Bool):Con I:=⟨92,⟨[.sl 135],[]⟩,[],⟨[.bool],[]⟩,0,F⟩
def TH(F:ze->Option Bool):Con I:=⟨94,⟨[.val 135],[]⟩,[],⟨[.bool],[]⟩,0,F⟩
def dJ(F:List ze->Option Int):Con I:=⟨137,⟨[.sl 135, .clo 94 []],[]⟩,[],⟨[.int .i64],[]⟩,0,F⟩
def wJ(F:List ze->Option Bool):Con I:=⟨93,⟨[.sl 135, .clo 94 []],[]⟩,[],⟨[.bool],[]⟩,0,F⟩
def Gm(F:z8->Option Int):Con I:=⟨48,⟨[.val 33],[]⟩,[],⟨[.int .i64],[]⟩,0,F⟩
def Bw(F:List ze->Option (z8×Bool)):Con I:=⟨245,⟨[.sl 135],[]⟩,[],⟨[.val 33, .bool],[]⟩,0,F⟩
def xD(F:List ze->Option (List z8×Int)):Con I:=⟨196,⟨[.sl 135],[]⟩,[],⟨[.sl 33, .int .i64],[]⟩,0,F⟩
def PG(F:List ze×List ze->Option (zD×Bool)):Con I:=⟨140,⟨[.sl 135, .sl 135],[]⟩,[],⟨[.val 39, .bool],[]⟩,0,F⟩
def Gz(F:Str->Option Bool):Con I:=⟨81,⟨[.str],[]⟩,[],⟨[.bool],[]⟩,0,F⟩
def nJ(F:List Str->Option Int):Con I:=⟨144,⟨[.own 0, .clo 81 []],[(0, .sl 9)]⟩,[0],⟨[.int .i64],[]⟩,0,F⟩
def JK(F:List Str->Option Bool):Con I:=⟨80,⟨[.own 0, .clo 81 []],[(0, .sl 9)]⟩,[0],⟨[.bool],[]⟩,0,F⟩
def RG(F:List Str->Option Bool):Con I:=⟨43,⟨[.own 0],[(0, .sl 9)]⟩,[0],⟨[.bool],[]⟩,0,F⟩
def oF(F:List ze->Option (List Str×Bool)):Con I:=⟨199,⟨[.sl 135],[]⟩,[],⟨[.sl 9, .bool],[]⟩,0,F⟩
def Py(F:List ze×Bool->Option (zD×Bool)):Con I:=⟨141,⟨[.sl 135, .bool],[]⟩,[],⟨[.val 39, .bool],[]⟩,0,F⟩
def qo(F:zo->Option Int):Con I:=⟨248,⟨[.optr 0],[(0, .row 242)]⟩,[0],⟨[.int .u8],[]⟩,0,F⟩
def qp(F:zo->Option (ze×zo)):Con I:=⟨249,⟨[.optr 0],[(0, .row 242)]⟩,[],⟨[.val 135],[(0, .row 242)]⟩,0,F⟩
def qF(F:zo->Option (Bool×zo)):Con I:=⟨200,⟨[.optr 0],[(0, .row 242)]⟩,[],⟨[.bool],[(0, .row 242)]⟩,0,F⟩
def Dr(F:List Str×zo->Option (Str×zo)):Con I:=⟨250,⟨[.optr 0, .sl 9],[(0, .row 242)]⟩,[],⟨[.str],[(0, .row 242)]⟩,0,F⟩
def kJ(F:List Str×Str->Option Bool):Con I:=⟨262,⟨[.sl 9, .str],[]⟩,[],⟨[.bool],[]⟩,0,F⟩
def Ey(F:Str->Option Bool):Con I:=⟨212,⟨[.str],[]⟩,[],⟨[.bool],[]⟩,0,F⟩
def Cy(F:List Int->Option Int):Con I:=⟨263,⟨[.sl 2],[]⟩,[],⟨[.int .i64],[]⟩,0,F⟩
def Dy(F:Int->Option Int):Con I:=⟨213,⟨[.int .i64],[]⟩,[],⟨[.int .i64],[]⟩,0,F⟩
def vI(F:zo->Option ((zq×Bool)×zo)):Con I:=⟨251,⟨[.optr 0],[(0, .row 242)]⟩,[],⟨[.val 36, .bool],[(0, .row 242)]⟩,0,F⟩
def WI(F:zo->Option ((zq×Bool)×zo)):Con I:=⟨201,⟨[.optr 0],[(0, .row 242)]⟩,[],⟨[.val 36, .bool],[(0, .row 242)]⟩,0,F⟩
def yx(F:List ze->Option (zq×Int)):Con I:=⟨142,⟨[.sl 135],[]⟩,[],⟨[.val 36, .int .i64],[]⟩,0,F⟩
def xE(F:List ze->Option (z8×Bool×Int)):Con I:=⟨293,⟨[.sl 135],[]⟩,[],⟨[.val 33, .bool, .int .i64],[]⟩,0,F⟩
def MI(F:zo->Option ((zq×Bool)×zo)):Con I:=⟨252,⟨[.optr 0],[(0, .row 242)]⟩,[],⟨[.val 36, .bool],[(0, .row 242)]⟩,0,F⟩
def qw(F:zo->Option ((zq×Bool)×zo)):Con I:=⟨202,⟨[.optr 0],[(0, .row 242)]⟩,[],⟨[.val 36, .bool],[(0, .row 242)]⟩,0,F⟩
def Rq(F:List ze->Option (Int×Int)):Con I:=⟨47,⟨[.sl 135],[]⟩,[],⟨[.int .i64, .int .i64],[]⟩,0,F⟩
def Vl(F:zq->Option Bool):Con I:=⟨101,⟨[.val 36],[]⟩,[],⟨[.bool],[]⟩,0,F⟩
def lw(F:zq->Option Bool):Con I:=⟨158,⟨[.val 36],[]⟩,[],⟨[.bool],[]⟩,0,F⟩
def Ul(F:zq×Int->Option ((Int×Bool)×Int)):Con I:=⟨102,⟨[.val 36, .optr 0],[(0, .row 3)]⟩,[],⟨[.int .i64, .bool],[(0, .row 3)]⟩,0,F⟩
def QC(F:zq->Option Int):Con I:=⟨52,⟨[.val 36],[]⟩,[],⟨[.int .i64],[]⟩,0,F⟩
def Nz(F:List ze->Option (zq×Int)):Con I:=⟨143,⟨[.sl 135],[]⟩,[],⟨[.val 36, .int .i64],[]⟩,0,F⟩
def nI(F:(Bool×Str×List ze)×zy->Option ((zD×Bool)×zy)):Con I:=⟨78,⟨[.optr 0, .bool, .str, .sl 135, .nilp],[(0, .row 80)]⟩,[],⟨[.val 39, .bool],[(0, .row 80)]⟩,0,F⟩
def SI(F:(Bool×Str×List ze×ze)×zy->Option ((zD×Bool)×zy)):Con I:=⟨78,⟨[.optr 0, .bool, .str, .sl 135, .ptr 135],[(0, .row 80)]⟩,[],⟨[.val 39, .bool],[(0, .row 80)]⟩,0,F⟩
def ZG(F:(List ze×Bool)×zy->Option (List zD×zy)):Con I:=⟨40,⟨[.optr 0, .sl 135, .bool],[(0, .row 80)]⟩,[],⟨[.sl 39],[(0, .row 80)]⟩,0,F⟩
def Wx(F:Str->Option (List zD×Int)):Con I:=⟨25,⟨[.str],[]⟩,[],⟨[.sl 39, .nilp, .int .i64],[]⟩,0,F⟩
def BQ(F:Str->Option (ZL×Int)):Con I:=⟨7,⟨[.str],[]⟩,[],⟨[.val 25, .int .i64],[]⟩,0,F⟩
def Ez(F:Str->Option ((List zD×Int)×zy)):Con I:=⟨25,⟨[.str],[]⟩,[],⟨[.sl 39, .optr 0, .int .i64],[(0, .row 80)]⟩,1,F⟩
def bQ(F:Str->Option (ZL×Int)):Con I:=⟨7,⟨[.str],[]⟩,[],⟨[.val 25, .int .i64],[]⟩,0,F⟩
def Fz(F:Str->Option (ZL×Int)):Con I:=⟨7,⟨[.str],[]⟩,[],⟨[.val 25, .int .i64],[]⟩,0,F⟩
def CK(F:List Str->Option Int):Con I:=⟨144,⟨[.sl 9, .clo 81 []],[]⟩,[],⟨[.int .i64],[]⟩,0,F⟩
def Q0(F:List Str->Option Bool):Con I:=⟨80,⟨[.sl 9, .clo 81 []],[]⟩,[],⟨[.bool],[]⟩,0,F⟩
def oH(F:List Str->Option Bool):Con I:=⟨43,⟨[.sl 9],[]⟩,[],⟨[.bool],[]⟩,0,F⟩
def KH(F:List Str->Option Bool):Con I:=⟨42,⟨[.sl 9],[]⟩,[],⟨[.bool],[]⟩,0,F⟩
def DK(F:List (List Str)->Option Int):Con I:=⟨79,⟨[.sl 59, .clo 42 []],[]⟩,[],⟨[.int .i64],[]⟩,0,F⟩
def QZ(F:List (List Str)->Option Bool):Con I:=⟨41,⟨[.sl 59, .clo 42 []],[]⟩,[],⟨[.bool],[]⟩,0,F⟩
def wm(F:List zu->Option Int):Con I:=⟨44,⟨[.sl 68],[]⟩,[],⟨[.int .i64],[]⟩,0,F⟩
def PI(F:zu->Option Bool):Con I:=⟨84,⟨[.val 68],[]⟩,[],⟨[.bool],[]⟩,0,F⟩
def IK(F:List zu->Option Int):Con I:=⟨146,⟨[.sl 68, .clo 84 []],[]⟩,[],⟨[.int .i64],[]⟩,0,F⟩
def QK(F:List zu->Option Bool):Con I:=⟨83,⟨[.sl 68, .clo 84 []],[]⟩,[],⟨[.bool],[]⟩,0,F⟩
def Kz(F:List zu->Option Int):Con I:=⟨45,⟨[.sl 68],[]⟩,[],⟨[.int .i64],[]⟩,0,F⟩
def SG(F:zq->Option Bool):Con I:=⟨46,⟨[.val 36],[]⟩,[],⟨[.bool],[]⟩,0,F⟩
def Vm(F:zq->Option Int):Con I:=⟨49,⟨[.val 36],[]⟩,[],⟨[.int .i64],[]⟩,0,F⟩
def wF(F:zq->Option Bool):Con I:=⟨156,⟨[.val 36],[]⟩,[],⟨[.bool],[]⟩,0,F⟩
def yF(F:zq->Option Bool):Con I:=⟨157,⟨[.val 36],[]⟩,[],⟨[.bool],[]⟩,0,F⟩
def eF(F:zq->Option Bool):Con I:=⟨100,⟨[.val 36],[]⟩,[],⟨[.bool],[]⟩,0,F⟩
def XI(F:zq->Option Bool):Con I:=⟨99,⟨[.val 36],[]⟩,[],⟨[.bool],[]⟩,0,F⟩
def RJ(F:List zq->Option Int):Con I:=⟨155,⟨[.sl 36, .clo 99 []],[]⟩,[],⟨[.int .i64],[]⟩,0,F⟩
def jJ(F:List zq->Option Bool):Con I:=⟨98,⟨[.sl 36, .clo 99 []],[]⟩,[],⟨[.bool],[]⟩,0,F⟩
def rq(F:zq->Option Int):Con I:=⟨50,⟨[.val 36],[]⟩,[],⟨[.int .i64],[]⟩,0,F⟩
def Dm(F:zq->Option Int):Con I:=⟨51,⟨[.val 36],[]⟩,[],⟨[.int .i64],[]⟩,0,F⟩
def Em(F:List zD->Option zK):Con I:=⟨26,⟨[.sl 39],[]⟩,[],⟨[.val 77],[]⟩,0,F⟩
def Ry(F:List zD->Option Int):Con I:=⟨27,⟨[.sl 39],[]⟩,[],⟨[.int .i64],[]⟩,0,F⟩
def Yq(F:ZL->Option Int):Con I:=⟨10,⟨[.val 25],[]⟩,[],⟨[.int .i64],[]⟩,0,F⟩
def Zq(F:Str×List UInt8->Option (Int×List UInt8)):Con I:=⟨67,⟨[.optr 0, .str],[(0, .cells 218 [.nop 0 218 2, .own 1]),(1, .sl 5)]⟩,[],⟨[.int .i64, .nili],[(0, .cells 218 [.nop 0 218 2, .own 2]),(2, .sl 5)]⟩,1,F⟩
def ZX(F:Int×List UInt8->Option (List UInt8)):Con I:=⟨225,⟨[.optr 0, .int .u8],[(0, .cells 218 [.nop 0 218 2, .own 1]),(1, .sl 5)]⟩,[],⟨[.nili],[(0, .cells 218 [.nop 0 218 2, .own 2]),(2, .sl 5)]⟩,1,F⟩
def Tq(F:Str->Option Int):Con I:=⟨233,⟨[.str],[]⟩,[],⟨[.int .i64],[]⟩,0,F⟩
def Bn(F:Int×List UInt8->Option (List UInt8)):Con I:=⟨276,⟨[.own 0, .int .u8],[(0, .sl 5)]⟩,[],⟨[.own 1],[(1, .sl 5)]⟩,1,F⟩
def Vy(F:Str×Int->Option (List UInt8)):Con I:=⟨232,⟨[.nilv, .str, .int .i64],[]⟩,[],⟨[.own 0],[(0, .sl 5)]⟩,1,F⟩
def Uy(F:(Str×Int)×List UInt8->Option (List UInt8)):Con I:=⟨232,⟨[.own 0, .str, .int .i64],[(0, .sl 5)]⟩,[],⟨[.own 1],[(1, .sl 5)]⟩,1,F⟩
def uH(F:Int×Bool->Option (List UInt8)):Con I:=⟨333,⟨[.nilv, .int .i64, .bool],[]⟩,[],⟨[.own 0],[(0, .sl 5)]⟩,1,F⟩
def ax(F:Unit->Option zaq):Con I:=⟨334,⟨[],[]⟩,[],⟨[.val 372],[]⟩,0,F⟩
def aG(F:zt->Option (List UInt8)):Con I:=⟨302,⟨[.nilv, .val 131],[]⟩,[],⟨[.own 0],[(0, .sl 5)]⟩,1,F⟩
def wE(F:zt->Option (Str×Int)):Con I:=⟨271,⟨[.val 131],[]⟩,[],⟨[.str, .int .i64],[]⟩,0,F⟩
def qY(F:zt×List UInt8->Option (List UInt8)):Con I:=⟨226,⟨[.optr 0, .val 131],[(0, .cells 218 [.nop 0 218 2, .own 1]),(1, .sl 5)]⟩,[],⟨[],[(0, .cells 218 [.nop 0 218 2, .own 2]),(2, .sl 5)]⟩,1,F⟩
def NJ(F:Str×Str->Option Bool):Con I:=⟨370,⟨[.str, .str],[]⟩,[],⟨[.bool],[]⟩,0,F⟩
def tJ(F:Str×Str->Option Str):Con I:=⟨336,⟨[.str, .str],[]⟩,[],⟨[.str],[]⟩,0,F⟩
def wI(F:Str×Str->Option Str):Con I:=⟨304,⟨[.str, .str],[]⟩,[],⟨[.str],[]⟩,0,F⟩
def BF(F:VAnb->Option (Str×Int)):Con I:=⟨273,⟨[.val 70],[]⟩,[],⟨[.str, .int .i64],[]⟩,0,F⟩
def UJ(F:List zu×List UInt8->Option (List UInt8)):Con I:=⟨174,⟨[.optr 0, .sl 68],[(0, .cells 218 [.nop 0 218 2, .own 1]),(1, .sl 5)]⟩,[],⟨[],[(0, .cells 218 [.nop 0 218 2, .own 2]),(2, .sl 5)]⟩,1,F⟩
def ZA(F:zC×List UInt8->Option (List UInt8)):Con I:=⟨227,⟨[.optr 0, .val 72],[(0, .cells 218 [.nop 0 218 2, .own 1]),(1, .sl 5)]⟩,[],⟨[],[(0, .cells 218 [.nop 0 218 2, .own 2]),(2, .sl 5)]⟩,1,F⟩
def oI(F:List zu->Option (List UInt8)):Con I:=⟨174,⟨[.optr 0, .sl 68],[(0, .cells 218 [.nop 0 218 2, .nilv])]⟩,[],⟨[],[(0, .cells 218 [.nop 0 218 2, .own 1]),(1, .sl 5)]⟩,1,F⟩
def mI(F:List UInt8->Option Int):Con I:=⟨70,⟨[.optr 0],[(0, .cells 218 [.nop 0 218 2, .own 1]),(1, .sl 5)]⟩,[0,1],⟨[.int .i64],[]⟩,0,F⟩
def ky(F:List zu->Option (Str×Int)):Con I:=⟨129,⟨[.sl 68],[]⟩,[],⟨[.str, .int .i64],[]⟩,0,F⟩
def OJ(F:Bool->Option Int):Con I:=⟨70,⟨[.optr 0],[(0, .cells 126 [.nop 0 126 3, .nilv, .bool])]⟩,[0],⟨[.int .i64],[]⟩,0,F⟩
def QL(F:Str×Bool->Option (Int×Bool×List UInt8)):Con I:=⟨67,⟨[.optr 0, .str],[(0, .cells 126 [.nop 0 126 3, .nilv, .bool])]⟩,[],⟨[.int .i64, .nili],[(0, .cells 126 [.nop 0 126 3, .own 1, .bool]),(1, .sl 5)]⟩,1,F⟩
def JI(F:(Str×Int)×Bool->Option (Bool×List UInt8)):Con I:=⟨128,⟨[.optr 0, .str, .int .i64],[(0, .cells 126 [.nop 0 126 3, .nilv, .bool])]⟩,[],⟨[],[(0, .cells 126 [.nop 0 126 3, .own 1, .bool]),(1, .sl 5)]⟩,1,F⟩
def Q6(F:Bool×List UInt8->Option Int):Con I:=⟨70,⟨[.optr 0],[(0, .cells 126 [.nop 0 126 3, .own 1, .bool]),(1, .sl 5)]⟩,[0,1],⟨[.int .i64],[]⟩,0,F⟩
def QM(F:Str×Bool×List UInt8->Option (Int×Bool×List UInt8)):Con I:=⟨67,⟨[.optr 0, .str],[(0, .cells 126 [.nop 0 126 3, .own 1, .bool]),(1, .sl 5)]⟩,[],⟨[.int .i64, .nili],[(0, .cells 126 [.nop 0 126 3, .own 2, .bool]),(2, .sl 5)]⟩,1,F⟩
def Z8(F:(Str×Int)×Bool×List UInt8->Option (Bool×List UInt8)):Con I:=⟨128,⟨[.optr 0, .str, .int .i64],[(0, .cells 126 [.nop 0 126 3, .own 1, .bool]),(1, .sl 5)]⟩,[],⟨[],[(0, .cells 126 [.nop 0 126 3, .own 2, .bool]),(2, .sl 5)]⟩,1,F⟩
def Gq(F:Str->Option (Str×Int)):Con I:=⟨179,⟨[.str],[]⟩,[],⟨[.str, .int .i64],[]⟩,0,F⟩
def tH(F:(Int×Bool)×List UInt8->Option (List UInt8)):Con I:=⟨333,⟨[.own 0, .int .i64, .bool],[(0, .sl 5)]⟩,[],⟨[.own 1],[(1, .sl 5)]⟩,1,F⟩
def YG(F:zt×List UInt8->Option (List UInt8)):Con I:=⟨302,⟨[.own 0, .val 131],[(0, .sl 5)]⟩,[],⟨[.own 1],[(1, .sl 5)]⟩,1,F⟩
def AJ(F:List zt×List zt->Option Bool):Con I:=⟨305,⟨[.sl 131, .sl 131],[]⟩,[],⟨[.bool],[]⟩,0,F⟩
def tF(F:List zt->Option (Str×Int)):Con I:=⟨274,⟨[.sl 131],[]⟩,[],⟨[.str, .int .i64],[]⟩,0,F⟩
def XF(F:List ze->Option (Str×Int)):Con I:=⟨228,⟨[.sl 135],[]⟩,[],⟨[.str, .int .i64],[]⟩,0,F⟩
def jw(F:z8->Option (Str×Int)):Con I:=⟨175,⟨[.val 33],[]⟩,[],⟨[.str, .int .i64],[]⟩,0,F⟩
def kw(F:List z8->Option (Str×Int)):Con I:=⟨130,⟨[.sl 33],[]⟩,[],⟨[.str, .int .i64],[]⟩,0,F⟩
def BG(F:zq->Option Int):Con I:=⟨176,⟨[.val 36],[]⟩,[],⟨[.int .i64],[]⟩,0,F⟩
def vH(F:Int×Int×List UInt8->Option (Int×List UInt8)):Con I:=⟨275,⟨[.int .u8, .optr 0, .optr 1],[(0, .row 3),(1, .sl 5)]⟩,[],⟨[],[(0, .row 3),(1, .sl 5)]⟩,0,F⟩
def bG(F:Int->Option (Str×Int)):Con I:=⟨230,⟨[.int .i64],[]⟩,[],⟨[.str, .int .i64],[]⟩,0,F⟩
def bF(F:List zq×Str->Option Str):Con I:=⟨229,⟨[.sl 36, .str, .clo 177 []],[]⟩,[],⟨[.str],[]⟩,0,F⟩
def dh(F:zq->Option Str):Con I:=⟨177,⟨[.val 36],[]⟩,[],⟨[.str],[]⟩,0,F⟩
def BA(F:zq×Bool->Option (Str×Bool)):Con I:=⟨231,⟨[.val 36, .optr 0],[(0, .cells 223 [.optr 1]),(1, .row 4)]⟩,[0],⟨[.str],[(1, .row 4)]⟩,0,F⟩
def dG(F:(List zq×Str)×Bool->Option (Str×Bool)):Con I:=⟨229,⟨[.sl 36, .str, .clo 231 [0]],[(0, .cells 223 [.optr 1]),(1, .row 4)]⟩,[0],⟨[.str],[(1, .row 4)]⟩,0,F⟩
def qN(F:zq×Bool->Option (Str×Bool)):Con I:=⟨178,⟨[.val 36, .optr 0],[(0, .row 4)]⟩,[],⟨[.str],[(0, .row 4)]⟩,0,F⟩
def ow(F:zq->Option (Str×Int)):Con I:=⟨131,⟨[.val 36],[]⟩,[],⟨[.str, .int .i64],[]⟩,0,F⟩
def Q3(F:(Str×Str)×Bool×List UInt8->Option (Bool×List UInt8)):Con I:=⟨127,⟨[.str, .str, .optr 0],[(0, .cells 181 [.optr 1]),(1, .cells 126 [.nop 1 126 3, .own 2, .bool]),(2, .sl 5)]⟩,[0],⟨[],[(1, .cells 126 [.nop 1 126 3, .own 3, .bool]),(3, .sl 5)]⟩,1,F⟩
def jA(F:List Str×Bool×List UInt8->Option (Bool×List UInt8)):Con I:=⟨133,⟨[.optr 0, .sl 9],[(0, .cells 126 [.nop 0 126 3, .own 1, .bool]),(1, .sl 5)]⟩,[],⟨[],[(0, .cells 126 [.nop 0 126 3, .own 2, .bool]),(2, .sl 5)]⟩,1,F⟩
def uI(F:zD×Bool×List UInt8->Option (Bool×List UInt8)):Con I:=⟨69,⟨[.optr 0, .val 39],[(0, .cells 126 [.nop 0 126 3, .own 1, .bool]),(1, .sl 5)]⟩,[],⟨[],[(0, .cells 126 [.nop 0 126 3, .own 2, .bool]),(2, .sl 5)]⟩,1,F⟩
def Z7(F:List zD×Bool×List UInt8->Option (Bool×List UInt8)):Con I:=⟨132,⟨[.optr 0, .sl 39],[(0, .cells 126 [.nop 0 126 3, .own 1, .bool]),(1, .sl 5)]⟩,[],⟨[],[(0, .cells 126 [.nop 0 126 3, .own 2, .bool]),(2, .sl 5)]⟩,1,F⟩
def VI(F:zD×Bool->Option (Bool×List UInt8)):Con I:=⟨69,⟨[.optr 0, .val 39],[(0, .cells 126 [.nop 0 126 3, .nilv, .bool])]⟩,[],⟨[],[(0, .cells 126 [.nop 0 126 3, .own 1, .bool]),(1, .sl 5)]⟩,1,F⟩
def Xx(F:zD->Option (Str×Int)):Con I:=⟨37,⟨[.val 39],[]⟩,[],⟨[.str, .int .i64],[]⟩,0,F⟩
def Sy(F:ZL->Option (List Str×Int)):Con I:=⟨23,⟨[.val 25],[]⟩,[],⟨[.sl 9, .int .i64],[]⟩,0,F⟩
def Ty(F:ZL->Option (Str×Int)):Con I:=⟨22,⟨[.val 25],[]⟩,[],⟨[.str, .int .i64],[]⟩,0,F⟩
def ny(F:Str×Str->Option Bool):Con I:=⟨21,⟨[.str, .str],[]⟩,[],⟨[.bool],[]⟩,0,F⟩
def AQ(F:Str->Option (zD×Int)):Con I:=⟨9,⟨[.str],[]⟩,[],⟨[.val 39, .int .i64],[]⟩,0,F⟩
def VR(F:Str->Option (zD×Int)):Con I:=⟨9,⟨[.str],[]⟩,[],⟨[.val 39, .int .i64],[]⟩,0,F⟩
def LH(F:Str->Option (zD×Int)):Con I:=⟨9,⟨[.str],[]⟩,[],⟨[.val 39, .int .i64],[]⟩,0,F⟩
def AA(F:zD->Option Int):Con I:=⟨30,⟨[.val 39],[]⟩,[],⟨[.int .i64],[]⟩,0,F⟩
def dA(F:List zD->Option (List zD)):Con I:=⟨58,⟨[.sl 39],[]⟩,[],⟨[.own 0],[(0, .sl 39)]⟩,1,F⟩
def AB(F:List zu->Option (List zu)):Con I:=⟨116,⟨[.sl 68],[]⟩,[],⟨[.own 0],[(0, .sl 68)]⟩,1,F⟩
def Q4(F:List zA->Option (List zA)):Con I:=⟨117,⟨[.sl 65],[]⟩,[],⟨[.own 0],[(0, .sl 65)]⟩,1,F⟩
def TA(F:List UInt8->Option (List UInt8)):Con I:=⟨118,⟨[.sl 5],[]⟩,[],⟨[.own 0],[(0, .sl 5)]⟩,1,F⟩
def NB(F:List zC->Option (List zC)):Con I:=⟨119,⟨[.sl 72],[]⟩,[],⟨[.own 0],[(0, .sl 72)]⟩,1,F⟩
def QI(F:List zu->Option (List zu)):Con I:=⟨59,⟨[.sl 68],[]⟩,[],⟨[.sl 68],[]⟩,0,F⟩
def fA(F:List z8->Option (List z8)):Con I:=⟨120,⟨[.sl 33],[]⟩,[],⟨[.own 0],[(0, .sl 33)]⟩,1,F⟩
def Gj(F:List ze->Option (List ze)):Con I:=⟨121,⟨[.sl 135],[]⟩,[],⟨[.sl 135],[]⟩,0,F⟩
def UG(F:List z8->Option (List z8)):Con I:=⟨60,⟨[.sl 33],[]⟩,[],⟨[.sl 33],[]⟩,0,F⟩
def iA(F:List zq->Option (List zq)):Con I:=⟨122,⟨[.sl 36],[]⟩,[],⟨[.own 0],[(0, .sl 36)]⟩,1,F⟩
def QH(F:zq->Option zq):Con I:=⟨61,⟨[.val 36],[]⟩,[],⟨[.val 36],[]⟩,0,F⟩
def MB(F:List (List Str)->Option (List (List Str))):Con I:=⟨62,⟨[.sl 59],[]⟩,[],⟨[.own 0],[(0, .sl 59)]⟩,1,F⟩
def Q5(F:List Str->Option (List Str)):Con I:=⟨63,⟨[.sl 9],[]⟩,[],⟨[.own 0],[(0, .sl 9)]⟩,1,F⟩
def Dj(F:List zD->Option (List zD)):Con I:=⟨31,⟨[.sl 39],[]⟩,[],⟨[.sl 39],[]⟩,0,F⟩
def OH(F:ZL×zD×Int->Option (ZL×Int)):Con I:=⟨16,⟨[.val 25, .val 39, .int .i64],[]⟩,[],⟨[.val 25, .int .i64],[]⟩,0,F⟩
def PH(F:ZL×Int->Option (ZL×Int)):Con I:=⟨20,⟨[.val 25, .int .i64],[]⟩,[],⟨[.val 25, .int .i64],[]⟩,0,F⟩
def sF(F:zD->Option (Str×Int)):Con I:=⟨24,⟨[.val 39],[]⟩,[],⟨[.str, .int .i64],[]⟩,0,F⟩
def XG(F:Unit->Option Bool):Con I:=⟨15,⟨[],[]⟩,[],⟨[.bool],[]⟩,0,F⟩
def KI(F:Unit->Option Bool):Con I:=⟨5,⟨[],[]⟩,[],⟨[.bool],[]⟩,0,F⟩
def RH(F:List ze->Option (List zt)):Con I:=⟨150,⟨[.nilv, .sl 135],[]⟩,[],⟨[.sl 131],[]⟩,0,F⟩
def RD(F:Str->Option (Str×Int)):Con I:=⟨134,⟨[.str],[]⟩,[],⟨[.str, .int .i64],[]⟩,0,F⟩
theorem pM:zg Tryz.prog (RD yj):=cO
def YE(F:Str×Int->Option Int):Con I:=⟨145,⟨[.str, .int .u8],[]⟩,[],⟨[.int .i64],[]⟩,0,F⟩
theorem oN:zg Tryz.prog (YE Kk):=oO
def mo(F:Str×Str->Option Int):Con I:=⟨182,⟨[.str, .str],[]⟩,[],⟨[.int .i64],[]⟩,0,F⟩
theorem Av:zg Tryz.prog (mo Tg):=aO
def ND(F:Str×Str->Option Str):Con I:=⟨286,⟨[.str, .str],[]⟩,[],⟨[.str],[]⟩,0,F⟩
theorem mM:zg Tryz.prog (ND Rj):=XO
def Vu(F:Str×Str->Option Str):Con I:=⟨365,⟨[.str, .str],[]⟩,[],⟨[.str],[]⟩,0,F⟩
theorem uD:zg Tryz.prog (Vu Vg):=DN
def YF(F:Str×Str->Option Int):Con I:=⟨287,⟨[.str, .str],[]⟩,[],⟨[.int .i64],[]⟩,0,F⟩
theorem LP:zg Tryz.prog (YF Rp):=yP
def IC(F:Str×Str->Option (Str×Str×Bool)):Con I:=⟨288,⟨[.str, .str],[]⟩,[],⟨[.str, .str, .bool],[]⟩,0,F⟩
theorem bL:zg Tryz.prog (IC cutF):=oK
def Gp(F:Int×Int->Option Str):Con I:=⟨303,⟨[.int .i64, .int .i64],[]⟩,[],⟨[.str],[]⟩,0,F⟩
theorem Uv:zg Tryz.prog (Gp yf):=pO
def yE(F:(Int×Int)×List UInt8->Option (List UInt8)):Con I:=⟨306,⟨[.own 0, .int .u64, .int .i64],[(0, .sl 5)]⟩,[],⟨[.own 1],[(1, .sl 5)]⟩,1,F⟩
theorem PP:zg Tryz.prog (yE vo):=aP
def Cw(F:(Int×Int)×List UInt8->Option (List UInt8)):Con I:=⟨364,⟨[.own 0, .int .i64, .int .i64],[(0, .sl 5)]⟩,[],⟨[.own 1],[(1, .sl 5)]⟩,1,F⟩
theorem gF:zg Tryz.prog (Cw Ui):=bP
def Wu(F:List zt->Option (List ze×Int)):Con I:=⟨39,⟨[.sl 131],[]⟩,[],⟨[.sl 135, .int .i64],[]⟩,0,F⟩
theorem vD:zg Tryz.prog (Wu parseF):=YO
def Ck(F:List Str×Str->Option Str):Con I:=⟨36,⟨[.sl 9, .str],[]⟩,[],⟨[.str],[]⟩,0,F⟩
theorem Bp:zg Tryz.prog (Ck Ue):=xL
def yD(F:List zt->Option (VAnb×Int)):Con I:=⟨405,⟨[.sl 131],[]⟩,[],⟨[.val 70, .int .i64],[]⟩,0,F⟩
theorem tN:zg Tryz.prog (yD Wt):=zg.none (by kernel_rfl)
def PD(F:Bool->Option Bool):Con I:=⟨125,⟨[.optr 0],[(0, .cells 126 [.nop 0 126 3, .nilv, .bool])]⟩,[],⟨[],[(0, .cells 126 [.nop 0 126 3, .nilv, .bool])]⟩,0,F⟩
theorem oM:zg Tryz.prog (PD bn):=bO
def tC(F:Bool×List UInt8->Option Bool):Con I:=⟨125,⟨[.optr 0],[(0, .cells 126 [.nop 0 126 3, .own 1, .bool]),(1, .sl 5)]⟩,[1],⟨[],[(0, .cells 126 [.nop 0 126 3, .own 1, .bool])]⟩,0,F⟩
theorem YM:zg Tryz.prog (tC Kn):=yL
def EC(F:Bool×List UInt8->Option Str):Con I:=⟨68,⟨[.optr 0],[(0, .cells 126 [.nop 0 126 3, .own 1, .bool]),(1, .sl 5)]⟩,[],⟨[.str],[]⟩,0,F⟩
theorem YL:zg Tryz.prog (EC strW):=mK
def Ut(F:List UInt8->Option Unit):Con I:=⟨125,⟨[.optr 0],[(0, .cells 218 [.nop 0 218 2, .own 1]),(1, .sl 5)]⟩,[1],⟨[],[(0, .cells 218 [.nop 0 218 2, .own 1])]⟩,0,F⟩
theorem lD:zg Tryz.prog (Ut copyV):=BM
def FC(F:List UInt8->Option Str):Con I:=⟨68,⟨[.optr 0],[(0, .cells 218 [.nop 0 218 2, .own 1]),(1, .sl 5)]⟩,[],⟨[.str],[]⟩,0,F⟩
theorem aL:zg Tryz.prog (FC strV):=nK
theorem oJ(fu:Nat):zg Tryz.prog (Q7 (stringslite_HasPrefix fu)):=
 okC (A:=⟨[],[],[],0,[],[],[],some fu⟩) (exS:=⟨[.bool],[]⟩) Tryz.f154 zw (by kernel_rfl) (by kernel_rfl) fun x=>by kernel_rfl
theorem Zo(fu:Nat):zg Tryz.prog (Zm (strings_HasPrefix fu)):=
 okC (A:=⟨[Q7 (stringslite_HasPrefix fu)],[],[],0,[],[],[],some fu⟩) (exS:=⟨[.bool],[]⟩) Tryz.f97 (memC (oJ fu) zw) (by kernel_rfl) (by kernel_rfl) fun x=>by kernel_rfl
theorem vU(fu:Nat):zg Tryz.prog (sJ (qZ fu)):=
 okC (A:=⟨[Zm (strings_HasPrefix fu),mo Tg],[],[],1,[(0,⟨[],⟨[],[(0, .row 192)]⟩,[0],[],[0],0,[],⟨[],[(0, .row 192)]⟩,[0]⟩)],[],[],some fu⟩) (exS:=⟨[],[(0, .row 192)]⟩) Tryz.f135 (memC (Zo fu) (memC Av zw)) (by kernel_rfl) (by kernel_rfl) fun x=>by kernel_rfl
theorem zN(fu:Nat):zg Tryz.prog (zM (zk fu)):=
 okC (A:=⟨[],[],[],1,[],[],[],some fu⟩) (exS:=⟨[.int .i64],[]⟩) Tryz.f183 zw (by kernel_rfl) (by kernel_rfl) fun x=>by kernel_rfl
theorem gm(fu:Nat):zg Tryz.prog (Bj (qX fu)):=
 okC (A:=⟨[],[],[],0,[],[],[],some fu⟩) (exS:=⟨[.bool],[]⟩) Tryz.f184 zw (by kernel_rfl) (by kernel_rfl) fun x=>by kernel_rfl
theorem uA(fu:Nat):zg Tryz.prog (Qi (Zz fu)):=
 okC (A:=⟨[zM (zk fu),Bj (qX fu)],[],[],1,[(0,⟨[],⟨[],[(0, .row 192)]⟩,[0,1],[],[0],0,[],⟨[],[(0, .row 192)]⟩,[0]⟩)],[],[],some fu⟩) (exS:=⟨[],[(0, .row 192)]⟩) Tryz.f185 (memC (zN fu) (memC (gm fu) zw)) (by kernel_rfl) (by kernel_rfl) fun x=>by kernel_rfl
theorem GV(fu:Nat):zg Tryz.prog (BK (QA fu)):=
 okC (A:=⟨[],[(2,[1]),(4,[9]),(7,[14]),(9,[19])],[],0,[],[(7,⟨[25],⟨[.bool],[]⟩,[0,1,5],[],[],0,[],⟨[],[]⟩,[]⟩)],[],some fu⟩) (exS:=⟨[.own 0],[(0, .sl 5)]⟩) Tryz.f314 zw (by kernel_rfl) (by kernel_rfl) fun x=>by kernel_rfl
theorem iT(fu:Nat):zg Tryz.prog (bI (lq fu)):=
 okC (A:=⟨[BK (QA fu)],[(2,[3])],[],0,[],[],[],some fu⟩) (exS:=⟨[.own 0],[(0, .sl 5)]⟩) Tryz.f283 (memC (GV fu) zw) (by kernel_rfl) (by kernel_rfl) fun x=>by kernel_rfl
theorem gq(fu:Nat):zg Tryz.prog (om (Qt fu)):=
 okC (A:=⟨[],[],[],0,[],[],[],some fu⟩) (exS:=⟨[.bool],[]⟩) Tryz.f285 zw (by kernel_rfl) (by kernel_rfl) fun x=>by kernel_rfl
theorem jm(fu:Nat):zg Tryz.prog (Cj (qE fu)):=
 okC (A:=⟨[om (Qt fu)],[],[],0,[],[],[],some fu⟩) (exS:=⟨[.bool],[]⟩) Tryz.f240 (memC (gq fu) zw) (by kernel_rfl) (by kernel_rfl) fun x=>by kernel_rfl
theorem IG(fu:Nat):zg Tryz.prog (Yw (Kh fu)):=
 okC (A:=⟨[Cj (qE fu),om (Qt fu)],[],[],0,[],[],[],some fu⟩) (exS:=⟨[.int .i64],[]⟩) Tryz.f284 (memC (jm fu) (memC (gq fu) zw)) (by kernel_rfl) (by kernel_rfl) fun x=>by kernel_rfl
theorem pU(fu:Nat):zg Tryz.prog (mJ (BB fu)):=
 okC (A:=⟨[zM (zk fu),bI (lq fu),Yw (Kh fu),Bj (qX fu)],[(7,[3])],[],1,[(10,⟨[6,36],⟨[.int .i64, .int .i64],[(0, .row 192)]⟩,[0,1,4],[],[0],0,[6],⟨[.int .i64],[(0, .row 192)]⟩,[0]⟩)],[(17,⟨[6],⟨[.int .i64],[(0, .row 192)]⟩,[1],[],[0],0,[],⟨[],[]⟩,[]⟩),(19,⟨[6],⟨[.int .i64],[]⟩,[],[0],[],0,[],⟨[],[]⟩,[]⟩)],[],some fu⟩) (exS:=⟨[.own 1],[(0, .row 192),(1, .sl 5)]⟩) Tryz.f238 (memC (zN fu) (memC (iT fu) (memC (IG fu) (memC (gm fu) zw)))) (by kernel_rfl) (by kernel_rfl) fun x=>by kernel_rfl
theorem FV(fu:Nat):zg Tryz.prog (yJ (QB fu)):=
 okC (A:=⟨[],[(2,[1]),(4,[9]),(7,[14]),(9,[19])],[],1,[],[(7,⟨[25],⟨[.bool],[(0, .sl 5)]⟩,[0,1,5],[],[0],0,[],⟨[],[]⟩,[]⟩)],[],some fu⟩) (exS:=⟨[.own 1],[(1, .sl 5)]⟩) Tryz.f314 zw (by kernel_rfl) (by kernel_rfl) fun x=>by kernel_rfl
theorem YS(fu:Nat):zg Tryz.prog (aI (jq fu)):=
 okC (A:=⟨[yJ (QB fu)],[(2,[3])],[],1,[],[],[],some fu⟩) (exS:=⟨[.own 1],[(1, .sl 5)]⟩) Tryz.f283 (memC (FV fu) zw) (by kernel_rfl) (by kernel_rfl) fun x=>by kernel_rfl
theorem Qa(fu:Nat):zg Tryz.prog (qg (Zt fu)):=
 okC (A:=⟨[zM (zk fu),aI (jq fu),Yw (Kh fu),Bj (qX fu)],[(7,[3])],[],2,[(10,⟨[6,36],⟨[.int .i64, .int .i64],[(0, .row 192)]⟩,[0,1,4],[1],[0],0,[6],⟨[.int .i64],[(0, .row 192)]⟩,[0]⟩)],[(17,⟨[6],⟨[.int .i64],[(0, .row 192),(1, .sl 5)]⟩,[1],[],[0,1],0,[],⟨[],[]⟩,[]⟩),(19,⟨[6],⟨[.int .i64],[(1, .sl 5)]⟩,[],[0],[1],0,[],⟨[],[]⟩,[]⟩)],[],some fu⟩) (exS:=⟨[.own 2],[(0, .row 192),(2, .sl 5)]⟩) Tryz.f238 (memC (zN fu) (memC (YS fu) (memC (IG fu) (memC (gm fu) zw)))) (by kernel_rfl) (by kernel_rfl) fun x=>by kernel_rfl
theorem oU(fu:Nat):zg Tryz.prog (XJ (LA fu)):=
 okC (A:=⟨[zM (zk fu),qg (Zt fu)],[(5,[3])],[],1,[(4,⟨[4],⟨[.own 1001],[(0, .row 192),(1, .row 131),(1001, .sl 5)]⟩,[0,2,3],[],[0,1],0,[4],⟨[.own 1001],[(0, .row 192),(1, .row 131),(1001, .sl 5)]⟩,[0,1,1001]⟩)],[],[],some fu⟩) (exS:=⟨[.optr 1],[(0, .row 192),(1, .row 131)]⟩) Tryz.f186 (memC (zN fu) (memC (Qa fu) zw)) (by kernel_rfl) (by kernel_rfl) fun x=>by kernel_rfl
theorem oG(fu:Nat):zg Tryz.prog (Oy (di fu)):=
 okC (A:=⟨[om (Qt fu)],[],[],0,[],[],[],some fu⟩) (exS:=⟨[.bool],[]⟩) Tryz.f239 (memC (gq fu) zw) (by kernel_rfl) (by kernel_rfl) fun x=>by kernel_rfl
theorem VH(fu:Nat):zg Tryz.prog (Dz (Hm fu)):=
 okC (A:=⟨[Oy (di fu),Cj (qE fu)],[],[],0,[],[],[],some fu⟩) (exS:=⟨[.bool],[]⟩) Tryz.f187 (memC (oG fu) (memC (jm fu) zw)) (by kernel_rfl) (by kernel_rfl) fun x=>by kernel_rfl
theorem ZZ(fu:Nat):zg Tryz.prog (ZK (Zb fu)):=
 okC (A:=⟨[zM (zk fu)],[],[],1,[],[],[],some fu⟩) (exS:=⟨[.bool],[]⟩) Tryz.f188 (memC (zN fu) zw) (by kernel_rfl) (by kernel_rfl) fun x=>by kernel_rfl
theorem DJ(fu:Nat):zg Tryz.prog (SA (Z6 fu)):=
 okC (A:=⟨[zM (zk fu),Oy (di fu),ZK (Zb fu)],[],[],1,[],[],[],some fu⟩) (exS:=⟨[.bool],[]⟩) Tryz.f189 (memC (zN fu) (memC (oG fu) (memC (ZZ fu) zw))) (by kernel_rfl) (by kernel_rfl) fun x=>by kernel_rfl
theorem JB(fu:Nat):zg Tryz.prog (QE (ZJ fu)):=
 okC (A:=⟨[zM (zk fu),Dz (Hm fu),ZK (Zb fu),qg (Zt fu)],[(5,[3])],[],1,[(2,⟨[3],⟨[.own 1002],[(0, .row 192),(1002, .sl 5)]⟩,[0],[],[0],0,[],⟨[],[]⟩,[]⟩)],[],[],some fu⟩) (exS:=⟨[.str],[(0, .row 192)]⟩) Tryz.f190 (memC (zN fu) (memC (VH fu) (memC (ZZ fu) (memC (Qa fu) zw)))) (by kernel_rfl) (by kernel_rfl) fun x=>by kernel_rfl
theorem jU(fu:Nat):zg Tryz.prog (YJ (NA fu)):=
 okC (A:=⟨[zM (zk fu),Cj (qE fu)],[],[],1,[],[(5,⟨[3],⟨[.int .i64],[]⟩,[0],[],[],0,[],⟨[],[]⟩,[]⟩),(7,⟨[3],⟨[.int .i64],[]⟩,[],[],[],0,[],⟨[],[]⟩,[]⟩)],[],some fu⟩) (exS:=⟨[.bool],[]⟩) Tryz.f191 (memC (zN fu) (memC (jm fu) zw)) (by kernel_rfl) (by kernel_rfl) fun x=>by kernel_rfl
theorem UU(fu:Nat):zg Tryz.prog (KJ (qm fu)):=
 okC (A:=⟨[zM (zk fu),Cj (qE fu)],[],[],1,[(0,⟨[],⟨[],[(0, .row 192)]⟩,[0,1],[],[0],0,[],⟨[],[(0, .row 192)]⟩,[0]⟩)],[],[],some fu⟩) (exS:=⟨[],[(0, .row 192)]⟩) Tryz.f185 (memC (zN fu) (memC (jm fu) zw)) (by kernel_rfl) (by kernel_rfl) fun x=>by kernel_rfl
theorem WU(fu:Nat):zg Tryz.prog (MJ (SB fu)):=
 okC (A:=⟨[zM (zk fu),KJ (qm fu),Cj (qE fu)],[],[],1,[],[(4,⟨[],⟨[],[(0, .row 192)]⟩,[0],[],[0],0,[],⟨[],[]⟩,[]⟩),(10,⟨[4],⟨[.bool],[(0, .row 192)]⟩,[],[],[0],0,[],⟨[],[]⟩,[]⟩),(15,⟨[4,5],⟨[.bool, .int .i64],[(0, .row 192)]⟩,[],[],[0],0,[],⟨[],[]⟩,[]⟩),(19,⟨[4],⟨[.bool],[(0, .row 192)]⟩,[],[],[0],0,[],⟨[],[]⟩,[]⟩)],[],some fu⟩) (exS:=⟨[.bool],[(0, .row 192)]⟩) Tryz.f241 (memC (zN fu) (memC (UU fu) (memC (jm fu) zw))) (by kernel_rfl) (by kernel_rfl) fun x=>by kernel_rfl
theorem jT(fu:Nat):zg Tryz.prog (dI (Xz fu)):=
 okC (A:=⟨[ND Rj,YF Rp,IC cutF],[],[],0,[(8,⟨[6,31],⟨[.int .i64, .int .i64],[]⟩,[0,2,3,4,5,29,30],[0],[],0,[6],⟨[.int .i64],[]⟩,[]⟩),(22,⟨[12,81],⟨[.int .i64, .int .i64],[]⟩,[4,79,80],[0],[],2,[12],⟨[.int .i64],[]⟩,[]⟩),(26,⟨[4,12],⟨[.int .i64, .int .i64],[]⟩,[],[],[],4,[12],⟨[.int .i64],[]⟩,[]⟩)],[(14,⟨[0,4,6],⟨[.str, .int .i64, .int .i64],[]⟩,[3,5],[],[],0,[],⟨[],[]⟩,[]⟩),(15,⟨[0,4],⟨[.str, .int .i64],[]⟩,[3],[],[],0,[],⟨[],[]⟩,[]⟩),(20,⟨[0,4],⟨[.str, .int .i64],[]⟩,[],[],[],0,[],⟨[],[]⟩,[]⟩),(31,⟨[12],⟨[.int .i64],[]⟩,[],[],[],0,[],⟨[],[]⟩,[]⟩)],[],some fu⟩) (exS:=⟨[.int .i64],[]⟩) Tryz.f242 (memC mM (memC LP (memC bL zw))) (by kernel_rfl) (by kernel_rfl) fun x=>by kernel_rfl
theorem VU(fu:Nat):zg Tryz.prog (LJ (RB fu)):=
 okC (A:=⟨[MJ (SB fu),dI (Xz fu),SA (Z6 fu),QE (ZJ fu),zM (zk fu)],[],[],1,[],[(9,⟨[],⟨[],[(0, .row 192),(1, .row 131),(2, .row 131)]⟩,[2,5],[],[0,1,2],0,[],⟨[],[]⟩,[]⟩)],[],some fu⟩) (exS:=⟨[.optr 1],[(0, .row 192),(1, .row 131)]⟩) Tryz.f192 (memC (WU fu) (memC (jT fu) (memC (DJ fu) (memC (JB fu) (memC (zN fu) zw))))) (by kernel_rfl) (by kernel_rfl) fun x=>by kernel_rfl
theorem ZN(fu:Nat):zg Tryz.prog (ZO (Ze fu)):=
 okC (A:=⟨[],[],[],0,[(3,⟨[10],⟨[.int .i64],[(0, .sl 5)]⟩,[2,3,8,9],[],[0],0,[],⟨[],[(0, .sl 5)]⟩,[0]⟩)],[(7,⟨[10],⟨[.int .i64],[(0, .sl 5)]⟩,[],[],[0],0,[],⟨[],[]⟩,[]⟩)],[],some fu⟩) (exS:=⟨[.str],[]⟩) Tryz.f76 zw (by kernel_rfl) (by kernel_rfl) fun x=>by kernel_rfl
theorem Qu(fu:Nat):zg Tryz.prog (Qe (ZH fu)):=
 okC (A:=⟨[ZO (Ze fu)],[],[],0,[],[],[],some fu⟩) (exS:=⟨[.bool],[]⟩) Tryz.f211 (memC (ZN fu) zw) (by kernel_rfl) (by kernel_rfl) fun x=>by kernel_rfl
theorem lT(fu:Nat):zg Tryz.prog (gI (QW fu)):=
 okC (A:=⟨[zM (zk fu),ZK (Zb fu),mJ (BB fu)],[],[],1,[(1,⟨[],⟨[],[(0, .row 192),(1, .row 131)]⟩,[0,2],[],[0,1],0,[],⟨[],[]⟩,[]⟩)],[],[],some fu⟩) (exS:=⟨[.optr 1],[(0, .row 192),(1, .row 131)]⟩) Tryz.f289 (memC (zN fu) (memC (ZZ fu) (memC (pU fu) zw))) (by kernel_rfl) (by kernel_rfl) fun x=>by kernel_rfl
theorem kT(fu:Nat):zg Tryz.prog (fI (Yz fu)):=
 okC (A:=⟨[Qi (Zz fu),zM (zk fu),Bj (qX fu),gI (QW fu),om (Qt fu),ZK (Zb fu),qg (Zt fu)],[(18,[3])],[],1,[(3,⟨[3],⟨[.own 1003],[(0, .row 192),(1, .row 131),(1003, .sl 5)]⟩,[0,2],[],[0,1],0,[],⟨[],[]⟩,[]⟩)],[(10,⟨[3,4],⟨[.own 1003, .int .i64],[(0, .row 192),(1, .row 131),(1003, .sl 5)]⟩,[],[],[0,1,1003],0,[],⟨[],[]⟩,[]⟩)],[],some fu⟩) (exS:=⟨[.optr 1],[(0, .row 192),(1, .row 131)]⟩) Tryz.f243 (memC (uA fu) (memC (zN fu) (memC (gm fu) (memC (lT fu) (memC (gq fu) (memC (ZZ fu) (memC (Qa fu) zw))))))) (by kernel_rfl) (by kernel_rfl) fun x=>by kernel_rfl
theorem BU(fu:Nat):zg Tryz.prog (lI (UA fu)):=
 okC (A:=⟨[QE (ZJ fu),zM (zk fu),Qe (ZH fu),Qi (Zz fu),fI (Yz fu)],[],[],1,[],[(11,⟨[],⟨[],[(0, .row 192),(1, .row 131)]⟩,[2,3],[],[0,1],0,[],⟨[],[]⟩,[]⟩)],[],some fu⟩) (exS:=⟨[.optr 1],[(0, .row 192),(1, .row 131)]⟩) Tryz.f193 (memC (JB fu) (memC (zN fu) (memC (Qu fu) (memC (uA fu) (memC (kT fu) zw))))) (by kernel_rfl) (by kernel_rfl) fun x=>by kernel_rfl
theorem Zp(fu:Nat):zg Tryz.prog (Zn (strings_IndexByte fu)):=
 okC (A:=⟨[YE Kk],[],[],0,[],[],[],some fu⟩) (exS:=⟨[.int .i64],[]⟩) Tryz.f82 (memC oN zw) (by kernel_rfl) (by kernel_rfl) fun x=>by kernel_rfl
theorem yS(fu:Nat):zg Tryz.prog (JJ (EA fu)):=
 okC (A:=⟨[zM (zk fu),Bj (qX fu),Qi (Zz fu),XJ (LA fu),Dz (Hm fu),ZK (Zb fu),SA (Z6 fu),QE (ZJ fu),YJ (NA fu),LJ (RB fu),Zm (strings_HasPrefix fu),lI (UA fu),Zn (strings_IndexByte fu)],[],[],1,[],[],[],some fu⟩) (exS:=⟨[.optr 1],[(0, .row 192),(1, .row 131)]⟩) Tryz.f136 (memC (zN fu) (memC (gm fu) (memC (uA fu) (memC (oU fu) (memC (VH fu) (memC (ZZ fu) (memC (DJ fu) (memC (JB fu) (memC (jU fu) (memC (VU fu) (memC (Zo fu) (memC (BU fu) (memC (Zp fu) zw))))))))))))) (by kernel_rfl) (by kernel_rfl) fun x=>by kernel_rfl
theorem dS(fu:Nat):zg Tryz.prog (EI (dz fu)):=
 okC (A:=⟨[],[(1,[2])],[],2,[],[],[],some fu⟩) (exS:=⟨[],[(0, .cells 90 [.own 2]),(2, .sl 131)]⟩) Tryz.f72 zw (by kernel_rfl) (by kernel_rfl) fun x=>by kernel_rfl
theorem iQ(fu:Nat):zg Tryz.prog (JH (Lx fu)):=
 okC (A:=⟨[RD yj,sJ (qZ fu),JJ (EA fu),EI (dz fu)],[],[],1,[(7,⟨[7],⟨[.int .i64],[(0, .cells 90 [.own 1004]),(1004, .sl 131),(1, .row 192)]⟩,[0,1,6],[],[0,1],0,[],⟨[],[(0, .cells 90 [.own 1004]),(1004, .sl 131),(1, .row 192)]⟩,[0,1,1004]⟩)],[],[],some fu⟩) (exS:=⟨[.int .i64],[(0, .cells 90 [.own 1]),(1, .sl 131)]⟩) Tryz.f71 (memC pM (memC (vU fu) (memC (yS fu) (memC (dS fu) zw)))) (by kernel_rfl) (by kernel_rfl) fun x=>by kernel_rfl
theorem Oz(fu:Nat):zg Tryz.prog (Wq (Qs fu)):=
 okC (A:=⟨[JH (Lx fu)],[],[],0,[],[],[],some fu⟩) (exS:=⟨[.sl 131, .int .i64],[]⟩) Tryz.f38 (memC (iQ fu) zw) (by kernel_rfl) (by kernel_rfl) fun x=>by kernel_rfl
theorem xP(fu:Nat):zg Tryz.prog (pF (gp fu)):=
 okC (A:=⟨[],[],[],0,[],[],[],some fu⟩) (exS:=⟨[.int .u8],[]⟩) Tryz.f75 zw (by kernel_rfl) (by kernel_rfl) fun x=>by kernel_rfl
theorem NT(fu:Nat):zg Tryz.prog (yI (GA fu)):=
 okC (A:=⟨[],[],[],1,[(2,⟨[8],⟨[.int .i64],[]⟩,[0,1,7],[],[],0,[],⟨[],[]⟩,[]⟩)],[],[],some fu⟩) (exS:=⟨[.int .i64],[]⟩) Tryz.f194 zw (by kernel_rfl) (by kernel_rfl) fun x=>by kernel_rfl
theorem bU(fu:Nat):zg Tryz.prog (TJ (VB fu)):=
 okC (A:=⟨[yI (GA fu)],[],[],1,[],[],[],some fu⟩) (exS:=⟨[.bool],[]⟩) Tryz.f139 (memC (NT fu) zw) (by kernel_rfl) (by kernel_rfl) fun x=>by kernel_rfl
theorem aR(fu:Nat):zg Tryz.prog (nH (Tx fu)):=
 okC (A:=⟨[TJ (VB fu)],[],[],2,[],[],[],some fu⟩) (exS:=⟨[.bool],[]⟩) Tryz.f138 (memC (bU fu) zw) (by kernel_rfl) (by kernel_rfl) fun x=>by kernel_rfl
theorem yU(fu:Nat):zg Tryz.prog (vJ (nA fu)):=
 okC (A:=⟨[nH (Tx fu)],[],[],2,[(2,⟨[8],⟨[.int .i64],[]⟩,[0,1,7],[],[],0,[],⟨[],[]⟩,[]⟩)],[],[],some fu⟩) (exS:=⟨[.int .i64],[]⟩) Tryz.f137 (memC (aR fu) zw) (by kernel_rfl) (by kernel_rfl) fun x=>by kernel_rfl
theorem yQ(fu:Nat):zg Tryz.prog (OG (Hw fu)):=
 okC (A:=⟨[vJ (nA fu)],[],[],1,[],[],[],some fu⟩) (exS:=⟨[.sl 135, .sl 135],[]⟩) Tryz.f77 (memC (yU fu) zw) (by kernel_rfl) (by kernel_rfl) fun x=>by kernel_rfl
theorem xy(fu:Nat):zg Tryz.prog (fq (Xh fu)):=
 okC (A:=⟨[],[],[],0,[],[(7,⟨[6],⟨[.bool],[]⟩,[0],[],[],0,[],⟨[],[]⟩,[]⟩)],[],some fu⟩) (exS:=⟨[.int .u8],[]⟩) Tryz.f74 zw (by kernel_rfl) (by kernel_rfl) fun x=>by kernel_rfl
theorem EP(fu:Nat)(Ff:List ze×Int->Option Zj)(hs:zg Tryz.prog (si Ff)):zg Tryz.prog (si (Nw fu Ff)):=
 okC (A:=⟨[fq (Xh fu),si Ff],[],[],0,[(3,⟨[12],⟨[.int .i64],[(1, .row 155)]⟩,[1,4,5,10,11],[0],[1],0,[],⟨[],[(1, .row 155)]⟩,[1]⟩)],[(9,⟨[],⟨[],[(1, .row 155)]⟩,[7,8,12],[2],[1],0,[],⟨[],[]⟩,[]⟩),(12,⟨[12],⟨[.int .i64],[(1, .row 155)]⟩,[],[],[1],0,[],⟨[],[]⟩,[]⟩)],[],some fu⟩) (exS:=⟨[.optr 0],[(0, .row 155)]⟩) Tryz.f88 (memC (xy fu) (memC hs zw)) (by kernel_rfl) (by kernel_rfl) fun x=>by kernel_rfl
theorem KG(fu:Nat):zg Tryz.prog (si (Ff fu)):=
 zg.iter (I:=I) (P:=Tryz.prog) (f:=88) (inS:=⟨[.sl 135, .int .u8],[]⟩) (cst:=[]) (outS:=⟨[.val 155],[]⟩) (k:=0) (Nw fu) (by kernel_rfl) (fun S h=>EP fu S h) fu
theorem Qn(fu:Nat):zg Tryz.prog (Qf (ZU fu)):=
 okC (A:=⟨[si (Ff fu)],[],[],0,[],[],[],some fu⟩) (exS:=⟨[.int .i64],[]⟩) Tryz.f87 (memC (KG fu) zw) (by kernel_rfl) (by kernel_rfl) fun x=>by kernel_rfl
theorem qa(fu:Nat):zg Tryz.prog (ZT (zT fu)):=
 okC (A:=⟨[],[],[],1,[],[],[],some fu⟩) (exS:=⟨[.optr 1],[(1, .row 131)]⟩) Tryz.f325 zw (by kernel_rfl) (by kernel_rfl) fun x=>by kernel_rfl
theorem QP(fu:Nat):zg Tryz.prog (qG (Za fu)):=
 okC (A:=⟨[ZT (zT fu)],[],[],1,[(2,⟨[],⟨[],[(0, .row 363)]⟩,[0,2,3],[],[0],0,[],⟨[],[(0, .row 363)]⟩,[0]⟩)],[],[],some fu⟩) (exS:=⟨[.bool],[(0, .row 363)]⟩) Tryz.f323 (memC (qa fu) zw) (by kernel_rfl) (by kernel_rfl) fun x=>by kernel_rfl
theorem yA(fu:Nat):zg Tryz.prog (Qg (Zy fu)):=
 okC (A:=⟨[ZT (zT fu)],[],[],1,[],[],[],some fu⟩) (exS:=⟨[.bool],[(0, .row 363)]⟩) Tryz.f326 (memC (qa fu) zw) (by kernel_rfl) (by kernel_rfl) fun x=>by kernel_rfl
theorem JU(fu:Nat):zg Tryz.prog (sI (Ar fu)):=
 okC (A:=⟨[Qg (Zy fu),qG (Za fu)],[],[],1,[(2,⟨[4],⟨[.int .i64],[(0, .row 363)]⟩,[0],[],[0],0,[],⟨[],[(0, .row 363)]⟩,[0]⟩)],[],[],some fu⟩) (exS:=⟨[.int .u8],[(0, .row 363)]⟩) Tryz.f324 (memC (yA fu) (memC (QP fu) zw)) (by kernel_rfl) (by kernel_rfl) fun x=>by kernel_rfl
theorem IU(fu:Nat):zg Tryz.prog (pI (xq fu)):=
 okC (A:=⟨[],[],[],1,[],[],[],some fu⟩) (exS:=⟨[.sl 135],[]⟩) Tryz.f348 zw (by kernel_rfl) (by kernel_rfl) fun x=>by kernel_rfl
theorem WJ(fu:Nat):zg Tryz.prog (OB (ZR fu)):=
 okC (A:=⟨[],[],[],1,[],[],[],some fu⟩) (exS:=⟨[.bool],[]⟩) Tryz.f328 zw (by kernel_rfl) (by kernel_rfl) fun x=>by kernel_rfl
theorem oQ(fu:Nat):zg Tryz.prog (NH (Dx fu)):=
 okC (A:=⟨[qG (Za fu),ZT (zT fu),ZO (Ze fu),OB (ZR fu),Qg (Zy fu),mo Tg,Qe (ZH fu)],[],[],0,[],[(20,⟨[],⟨[],[(0, .cells 72 [.int .u8, .str, .int .u8, .str, .bool, .int .i64, .int .i64, .bool, .nilv]),(1, .row 363),(2, .cells 72 [.int .u8, .str, .int .u8, .str, .bool, .int .i64, .int .i64, .bool, .nilv])]⟩,[2,4,5],[],[0,1,2],0,[],⟨[],[]⟩,[]⟩)],[],some fu⟩) (exS:=⟨[.optr 0, .bool],[(0, .row 72)]⟩) Tryz.f347 (memC (QP fu) (memC (qa fu) (memC (ZN fu) (memC (WJ fu) (memC (yA fu) (memC Av (memC (Qu fu) zw))))))) (by kernel_rfl) (by kernel_rfl) fun x=>by kernel_rfl
theorem pz(fu:Nat):zg Tryz.prog (iq (Yh fu)):=
 okC (A:=⟨[],[(1,[0])],[],0,[],[],[],some fu⟩) (exS:=⟨[.sl 9],[]⟩) Tryz.f272 zw (by kernel_rfl) (by kernel_rfl) fun x=>by kernel_rfl
theorem xA(fu:Nat):zg Tryz.prog (Qh (slices_Index_string fu)):=
 okC (A:=⟨[],[],[],0,[(2,⟨[8],⟨[.int .i64],[]⟩,[0,1,7],[],[],0,[],⟨[],[]⟩,[]⟩)],[],[],some fu⟩) (exS:=⟨[.int .i64],[]⟩) Tryz.f296 zw (by kernel_rfl) (by kernel_rfl) fun x=>by kernel_rfl
theorem nQ(fu:Nat):zg Tryz.prog (MH (Rx fu)):=
 okC (A:=⟨[ZO (Ze fu),iq (Yh fu),Qh (slices_Index_string fu)],[],[],0,[],[],[],some fu⟩) (exS:=⟨[.optr 0, .bool],[(0, .row 72)]⟩) Tryz.f349 (memC (ZN fu) (memC (pz fu) (memC (xA fu) zw))) (by kernel_rfl) (by kernel_rfl) fun x=>by kernel_rfl
theorem iR(fu:Nat):zg Tryz.prog (rH (gy fu)):=
 okC (A:=⟨[Qe (ZH fu)],[],[],0,[],[],[],some fu⟩) (exS:=⟨[.bool],[]⟩) Tryz.f404 (memC (Qu fu) zw) (by kernel_rfl) (by kernel_rfl) fun x=>by kernel_rfl
theorem OV(fu:Nat):zg Tryz.prog (gJ (QT fu)):=
 okC (A:=⟨[rH (gy fu)],[],[],0,[(2,⟨[8],⟨[.int .i64],[]⟩,[0,1,7],[],[],0,[],⟨[],[]⟩,[]⟩)],[],[],some fu⟩) (exS:=⟨[.int .i64],[]⟩) Tryz.f137 (memC (iR fu) zw) (by kernel_rfl) (by kernel_rfl) fun x=>by kernel_rfl
theorem aA(fu:Nat):zg Tryz.prog (Cr (qA fu)):=
 okC (A:=⟨[],[],[],0,[],[],[],some fu⟩) (exS:=⟨[.optr 0, .bool],[(0, .row 151)]⟩) Tryz.f255 zw (by kernel_rfl) (by kernel_rfl) fun x=>by kernel_rfl
theorem xQ(fu:Nat)(Q9:List ze×List zt->Option (List zt))(hs:zg Tryz.prog (Wm Q9)):zg Tryz.prog (Wm (Jy fu Q9)):=
 okC (A:=⟨[fq (Xh fu),Wm Q9],[(4,[3]),(7,[6])],[],1,[(2,⟨[0,10],⟨[.own 1006, .int .i64],[(1006, .sl 131)]⟩,[4,8,9],[],[],0,[0],⟨[.own 1006],[(1006, .sl 131)]⟩,[1006]⟩)],[(8,⟨[0,10],⟨[.own 1108, .int .i64],[(1108, .sl 131)]⟩,[],[],[],0,[],⟨[],[]⟩,[]⟩)],[],some fu⟩) (exS:=⟨[.own 1],[(1, .sl 131)]⟩) Tryz.f150 (memC (xy fu) (memC hs zw)) (by kernel_rfl) (by kernel_rfl) fun x=>by kernel_rfl
theorem GR(fu:Nat):zg Tryz.prog (Wm (Q9 fu)):=
 zg.iter (I:=I) (P:=Tryz.prog) (f:=150) (inS:=⟨[.own 0, .sl 135],[(0, .sl 131)]⟩) (cst:=[]) (outS:=⟨[.own 1],[(1, .sl 131)]⟩) (k:=1) (Jy fu) (by kernel_rfl) (fun S h=>xQ fu S h) fu
theorem vG(fu:Nat):zg Tryz.prog (VG (ui fu)):=
 okC (A:=⟨[fq (Xh fu),Wm (Q9 fu)],[(4,[3]),(7,[6])],[],0,[(2,⟨[0,10],⟨[.own 1110, .int .i64],[(1110, .sl 131)]⟩,[4,8,9],[],[],0,[0],⟨[.own 1110],[(1110, .sl 131)]⟩,[1110]⟩)],[(8,⟨[0,10],⟨[.own 1212, .int .i64],[(1212, .sl 131)]⟩,[],[],[],0,[],⟨[],[]⟩,[]⟩)],[],some fu⟩) (exS:=⟨[.own 0],[(0, .sl 131)]⟩) Tryz.f150 (memC (xy fu) (memC (GR fu) zw)) (by kernel_rfl) (by kernel_rfl) fun x=>by kernel_rfl
theorem sQ(fu:Nat):zg Tryz.prog (RH (ui fu)):=MO ipOK (by kernel_rfl) (vG fu)
theorem LG(fu:Nat):zg Tryz.prog (dw (uk fu)):=
 okC (A:=⟨[Qf (ZU fu),VG (ui fu)],[],[],0,[],[],[],some fu⟩) (exS:=⟨[.sl 131, .int .i64],[]⟩) Tryz.f89 (memC (Qn fu) (memC (vG fu) zw)) (by kernel_rfl) (by kernel_rfl) fun x=>by kernel_rfl
theorem YH(fu:Nat):zg Tryz.prog (jy (Jm fu)):=
 okC (A:=⟨[Zn (strings_IndexByte fu)],[],[],0,[],[],[],some fu⟩) (exS:=⟨[.bool],[]⟩) Tryz.f257 (memC (Zp fu) zw) (by kernel_rfl) (by kernel_rfl) fun x=>by kernel_rfl
theorem gH(fu:Nat):zg Tryz.prog (Jz (Mm fu)):=
 okC (A:=⟨[jy (Jm fu)],[],[],0,[],[],[],some fu⟩) (exS:=⟨[.bool],[]⟩) Tryz.f253 (memC (YH fu) zw) (by kernel_rfl) (by kernel_rfl) fun x=>by kernel_rfl
theorem fH(fu:Nat):zg Tryz.prog (Iz (Lm fu)):=
 okC (A:=⟨[Jz (Mm fu),ZO (Ze fu)],[],[],0,[],[],[],some fu⟩) (exS:=⟨[.bool],[]⟩) Tryz.f205 (memC (gH fu) (memC (ZN fu) zw)) (by kernel_rfl) (by kernel_rfl) fun x=>by kernel_rfl
theorem jR(fu:Nat):zg Tryz.prog (sH (iy fu)):=
 okC (A:=⟨[],[],[],0,[],[(4,⟨[6],⟨[.bool],[]⟩,[1,5],[0],[],0,[],⟨[],[]⟩,[]⟩),(7,⟨[11],⟨[.bool],[]⟩,[],[],[],0,[],⟨[],[]⟩,[]⟩),(10,⟨[14],⟨[.bool],[]⟩,[],[],[],0,[],⟨[],[]⟩,[]⟩)],[],some fu⟩) (exS:=⟨[.bool, .bool],[]⟩) Tryz.f254 zw (by kernel_rfl) (by kernel_rfl) fun x=>by kernel_rfl
theorem NQ(fu:Nat):zg Tryz.prog (CG (Fq fu)):=
 okC (A:=⟨[],[],[],0,[],[],[],some fu⟩) (exS:=⟨[.bool],[]⟩) Tryz.f294 zw (by kernel_rfl) (by kernel_rfl) fun x=>by kernel_rfl
theorem mF(fu:Nat):zg Tryz.prog (sw (nk fu)):=
 okC (A:=⟨[CG (Fq fu)],[],[],0,[],[],[],some fu⟩) (exS:=⟨[.int .i64],[]⟩) Tryz.f258 (memC (NQ fu) zw) (by kernel_rfl) (by kernel_rfl) fun x=>by kernel_rfl
theorem MS(fu:Nat)(zf:zA×zh->Option Bool)(h_seltext_compound:zg Tryz.prog (Zc zf)):zg Tryz.prog (OI (Tz fu zf)):=
 okC (A:=⟨[Zc zf],[],[],1,[],[],[],some fu⟩) (exS:=⟨[.bool],[]⟩) Tryz.f148 (memC h_seltext_compound zw) (by kernel_rfl) (by kernel_rfl) fun x=>by kernel_rfl
theorem KV(fu:Nat)(zf:zA×zh->Option Bool)(h_seltext_compound:zg Tryz.prog (Zc zf)):zg Tryz.prog (EK (Qx fu zf)):=
 okC (A:=⟨[OI (Tz fu zf)],[],[],1,[(2,⟨[8],⟨[.int .i64],[]⟩,[0,1,7],[],[],0,[],⟨[],[]⟩,[]⟩)],[],[],some fu⟩) (exS:=⟨[.int .i64],[]⟩) Tryz.f204 (memC (MS fu zf h_seltext_compound) zw) (by kernel_rfl) (by kernel_rfl) fun x=>by kernel_rfl
theorem fV(fu:Nat)(zf:zA×zh->Option Bool)(h_seltext_compound:zg Tryz.prog (Zc zf)):zg Tryz.prog (QY (qJ fu zf)):=
 okC (A:=⟨[EK (Qx fu zf)],[],[],1,[],[],[],some fu⟩) (exS:=⟨[.bool],[]⟩) Tryz.f147 (memC (KV fu zf h_seltext_compound) zw) (by kernel_rfl) (by kernel_rfl) fun x=>by kernel_rfl
theorem eH(fu:Nat)(zf:zA×zh->Option Bool)(h_seltext_compound:zg Tryz.prog (Zc zf)):zg Tryz.prog (Hz (Ym fu zf)):=
 okC (A:=⟨[QY (qJ fu zf)],[],[],0,[(4,⟨[38],⟨[.int .i64],[]⟩,[3,4,36,37],[0,1],[],0,[],⟨[],[]⟩,[]⟩)],[],[],some fu⟩) (exS:=⟨[.bool],[]⟩) Tryz.f85 (memC (fV fu zf h_seltext_compound) zw) (by kernel_rfl) (by kernel_rfl) fun x=>by kernel_rfl
theorem kS(fu:Nat)(zf:zA×zh->Option Bool)(h_seltext_compound:zg Tryz.prog (Zc zf)):zg Tryz.prog (GI (kz fu zf)):=
 okC (A:=⟨[Hz (Ym fu zf)],[],[],2,[],[],[],some fu⟩) (exS:=⟨[.bool],[]⟩) Tryz.f256 (memC (eH fu zf h_seltext_compound) zw) (by kernel_rfl) (by kernel_rfl) fun x=>by kernel_rfl
theorem RV(fu:Nat)(zf:zA×zh->Option Bool)(h_seltext_compound:zg Tryz.prog (Zc zf)):zg Tryz.prog (iJ (QS fu zf)):=
 okC (A:=⟨[GI (kz fu zf)],[],[],2,[(2,⟨[8],⟨[.int .i64],[]⟩,[0,1,7],[],[],0,[],⟨[],[]⟩,[]⟩)],[],[],some fu⟩) (exS:=⟨[.int .i64],[]⟩) Tryz.f146 (memC (kS fu zf h_seltext_compound) zw) (by kernel_rfl) (by kernel_rfl) fun x=>by kernel_rfl
theorem WV(fu:Nat)(zf:zA×zh->Option Bool)(h_seltext_compound:zg Tryz.prog (Zc zf)):zg Tryz.prog (xJ (qV fu zf)):=
 okC (A:=⟨[iJ (QS fu zf)],[],[],2,[],[],[],some fu⟩) (exS:=⟨[.bool],[]⟩) Tryz.f83 (memC (RV fu zf h_seltext_compound) zw) (by kernel_rfl) (by kernel_rfl) fun x=>by kernel_rfl
theorem xR(fu:Nat)(zf:zA×zh->Option Bool)(h_seltext_compound:zg Tryz.prog (Zc zf)):zg Tryz.prog (lH (ry fu zf)):=
 okC (A:=⟨[sH (iy fu),Cr (qA fu),xJ (qV fu zf),Jz (Mm fu),Iz (Lm fu),jy (Jm fu),sw (nk fu)],[],[],0,[],[(8,⟨[],⟨[],[]⟩,[2],[0],[],0,[],⟨[],[]⟩,[]⟩),(15,⟨[89],⟨[.bool],[]⟩,[10,88],[],[],0,[],⟨[],[]⟩,[]⟩)],[],some fu⟩) (exS:=⟨[.bool],[]⟩) Tryz.f206 (memC (jR fu) (memC (aA fu) (memC (WV fu zf h_seltext_compound) (memC (gH fu) (memC (fH fu) (memC (YH fu) (memC (mF fu) zw))))))) (by kernel_rfl) (by kernel_rfl) fun x=>by kernel_rfl
theorem JS(fu:Nat)(zf:zA×zh->Option Bool)(hs:zg Tryz.prog (Zc zf)):zg Tryz.prog (Zc (uz fu zf)):=
 okC (A:=⟨[Iz (Lm fu),lH (ry fu zf)],[],[],0,[(4,⟨[30],⟨[.int .i64],[]⟩,[2,3,28,29],[0,1],[],0,[],⟨[],[]⟩,[]⟩)],[],[],some fu⟩) (exS:=⟨[.bool],[]⟩) Tryz.f149 (memC (fH fu) (memC (xR fu zf hs) zw)) (by kernel_rfl) (by kernel_rfl) fun x=>by kernel_rfl
theorem YI(fu:Nat):zg Tryz.prog (Zc (zf fu)):=
 zg.iter (I:=I) (P:=Tryz.prog) (f:=149) (inS:=⟨[.val 65, .val 151],[]⟩) (cst:=[]) (outS:=⟨[.bool],[]⟩) (k:=0) (uz fu) (by kernel_rfl) (fun S h=>JS fu S h) fu
theorem ER(fu:Nat)(zF:List ze×zh×Bool×Bool->Option (List zu×Bool))(h_seltext_parts:zg Tryz.prog (ZM zF)):zg Tryz.prog (TG (Kw fu zF)):=
 okC (A:=⟨[gJ (QT fu),Cr (qA fu),ZM zF,dw (uk fu),yD Wt],[],[],0,[],[(8,⟨[1],⟨[.sl 135],[(0, .row 72),(2, .cells 72 [.int .u8, .str, .int .u8, .str, .bool, .int .i64, .int .i64, .bool, .nilv])]⟩,[3,6],[],[0,2],0,[],⟨[],[]⟩,[]⟩)],[],some fu⟩) (exS:=⟨[.optr 0, .bool],[(0, .row 72)]⟩) Tryz.f381 (memC (OV fu) (memC (aA fu) (memC h_seltext_parts (memC (LG fu) (memC tN zw))))) (by kernel_rfl) (by kernel_rfl) fun x=>by kernel_rfl
theorem lS(fu:Nat)(zF:List ze×zh×Bool×Bool->Option (List zu×Bool))(h_seltext_parts:zg Tryz.prog (ZM zF)):zg Tryz.prog (II (nz fu zF)):=
 okC (A:=⟨[iq (Yh fu),ZO (Ze fu),Qh (slices_Index_string fu),TG (Kw fu zF),Cr (qA fu),ZM zF],[],[],0,[],[],[],some fu⟩) (exS:=⟨[.optr 0, .bool],[(0, .row 72)]⟩) Tryz.f350 (memC (pz fu) (memC (ZN fu) (memC (xA fu) (memC (ER fu zF h_seltext_parts) (memC (aA fu) (memC h_seltext_parts zw)))))) (by kernel_rfl) (by kernel_rfl) fun x=>by kernel_rfl
theorem BV(fu:Nat)(zF:List ze×zh×Bool×Bool->Option (List zu×Bool))(h_seltext_parts:zg Tryz.prog (ZM zF)):zg Tryz.prog (lJ (rA fu zF)):=
 okC (A:=⟨[ZT (zT fu),pI (xq fu),NH (Dx fu),MH (Rx fu),II (nz fu zF)],[(24,[2])],[],1,[(2,⟨[6],⟨[.own 1323],[(0, .row 363),(1323, .sl 72)]⟩,[0,3],[1],[0],0,[],⟨[],[]⟩,[]⟩)],[(21,⟨[8],⟨[.bool],[(0, .row 363),(1324, .row 72)]⟩,[6,7],[1323],[0,1324],0,[],⟨[],[]⟩,[]⟩),(22,⟨[6,8],⟨[.own 1323, .bool],[(0, .row 363),(1323, .sl 72),(1324, .row 72)]⟩,[7],[],[0,1323,1324],0,[],⟨[],[]⟩,[]⟩)],[],some fu⟩) (exS:=⟨[.sl 72, .bool],[(0, .row 363)]⟩) Tryz.f327 (memC (qa fu) (memC (IU fu) (memC (oQ fu) (memC (nQ fu) (memC (lS fu zF h_seltext_parts) zw))))) (by kernel_rfl) (by kernel_rfl) fun x=>by kernel_rfl
theorem vT(fu:Nat)(zF:List ze×zh×Bool×Bool->Option (List zu×Bool))(h_seltext_parts:zg Tryz.prog (ZM zF)):zg Tryz.prog (UI (bz fu zF)):=
 okC (A:=⟨[qG (Za fu),sI (Ar fu),ZT (zT fu),ZO (Ze fu),Qg (Zy fu),lJ (rA fu zF),Zc (zf fu),OB (ZR fu)],[(19,[3]),(27,[3])],[],0,[(8,⟨[],⟨[],[(1, .cells 68 [.int .u8, .nilv, .nilv]),(2, .row 363),(3, .cells 68 [.int .u8, .own 1324, .own 1325]),(1324, .sl 65),(1325, .sl 5)]⟩,[],[],[1,2,3],0,[],⟨[],[(1, .cells 68 [.int .u8, .nilv, .nilv]),(2, .row 363),(3, .cells 68 [.int .u8, .own 1326, .own 1325]),(1326, .sl 65),(1325, .sl 5)]⟩,[1,2,3,1325]⟩)],[(8,⟨[],⟨[],[(1, .cells 68 [.int .u8, .nilv, .nilv]),(2, .row 363),(3, .cells 68 [.int .u8, .nilv, .nilv])]⟩,[4,6,8,9],[0],[1,2,3],0,[],⟨[],[]⟩,[]⟩),(15,⟨[],⟨[],[(1, .cells 68 [.int .u8, .nilv, .nilv]),(2, .row 363),(3, .cells 68 [.int .u8, .own 1324, .own 1325]),(1324, .sl 65),(1325, .sl 5),(1326, .cells 65 [.str, .nilv])]⟩,[10],[],[1,2,3,1324,1325,1326],0,[],⟨[],[]⟩,[]⟩),(27,⟨[14],⟨[.int .u8],[(1, .cells 68 [.int .u8, .nilv, .nilv]),(3, .cells 68 [.int .u8, .own 1328, .own 1325]),(1328, .sl 65),(1325, .sl 5)]⟩,[],[2,1326],[1,3,1325,1328],0,[],⟨[],[]⟩,[]⟩)],[],some fu⟩) (exS:=⟨[.optr 0, .bool],[(0, .row 68)]⟩) Tryz.f290 (memC (QP fu) (memC (JU fu) (memC (qa fu) (memC (ZN fu) (memC (yA fu) (memC (BV fu zF h_seltext_parts) (memC (YI fu) (memC (WJ fu) zw)))))))) (by kernel_rfl) (by kernel_rfl) fun x=>by kernel_rfl
theorem WR(fu:Nat)(zF:List ze×zh×Bool×Bool->Option (List zu×Bool))(hs:zg Tryz.prog (ZM zF)):zg Tryz.prog (ZM (Uz fu zF)):=
 okC (A:=⟨[UI (bz fu zF)],[(9,[2])],[],0,[(4,⟨[10,11,18],⟨[.own 1219, .int .i64, .int .i64],[(1219, .sl 68)]⟩,[0,2,3,5,17],[0],[],0,[10],⟨[.own 1219],[(1219, .sl 68)]⟩,[1219]⟩)],[(12,⟨[10],⟨[.own 1321],[(1321, .sl 68)]⟩,[12,18],[],[],0,[],⟨[],[]⟩,[]⟩),(13,⟨[10,11,18],⟨[.own 1322, .int .i64, .int .i64],[(1322, .sl 68)]⟩,[],[],[],0,[],⟨[],[]⟩,[]⟩)],[],some fu⟩) (exS:=⟨[.sl 68, .bool],[]⟩) Tryz.f244 (memC (vT fu zF hs) zw) (by kernel_rfl) (by kernel_rfl) fun x=>by kernel_rfl
theorem dR(fu:Nat):zg Tryz.prog (ZM (zF fu)):=
 zg.iter (I:=I) (P:=Tryz.prog) (f:=244) (inS:=⟨[.sl 135, .val 151, .bool, .bool],[]⟩) (cst:=[]) (outS:=⟨[.sl 68, .bool],[]⟩) (k:=0) (Uz fu) (by kernel_rfl) (fun S h=>WR fu S h) fu
theorem XR(fu:Nat)(Z5:List zu->Option Int)(hs:zg Tryz.prog (QJ Z5)):zg Tryz.prog (QJ (Vz fu Z5)):=
 okC (A:=⟨[QJ Z5],[],[],0,[(3,⟨[3,14],⟨[.int .i64, .int .i64],[]⟩,[2,12,13],[],[],0,[3],⟨[.int .i64],[]⟩,[]⟩),(6,⟨[3,21],⟨[.int .i64, .int .i64],[]⟩,[14,19,20],[],[],2,[3],⟨[.int .i64],[]⟩,[]⟩),(9,⟨[3,28],⟨[.int .i64, .int .i64],[]⟩,[21,26,27],[],[],4,[3],⟨[.int .i64],[]⟩,[]⟩)],[],[],some fu⟩) (exS:=⟨[.int .i64],[]⟩) Tryz.f86 (memC hs zw) (by kernel_rfl) (by kernel_rfl) fun x=>by kernel_rfl
theorem iH(fu:Nat):zg Tryz.prog (QJ (Z5 fu)):=
 zg.iter (I:=I) (P:=Tryz.prog) (f:=86) (inS:=⟨[.sl 68],[]⟩) (cst:=[]) (outS:=⟨[.int .i64],[]⟩) (k:=0) (Vz fu) (by kernel_rfl) (fun S h=>XR fu S h) fu
theorem SQ(fu:Nat):zg Tryz.prog (rF (Gw fu)):=
 okC (A:=⟨[Qf (ZU fu),ZM (zF fu),QJ (Z5 fu)],[],[],0,[],[],[],some fu⟩) (exS:=⟨[.sl 68, .int .i64],[]⟩) Tryz.f195 (memC (Qn fu) (memC (dR fu) (memC (iH fu) zw))) (by kernel_rfl) (by kernel_rfl) fun x=>by kernel_rfl
theorem AU(fu:Nat):zg Tryz.prog (QD (GJ fu)):=
 okC (A:=⟨[],[],[],0,[],[],[],some fu⟩) (exS:=⟨[.own 0],[(0, .sl 135)]⟩) Tryz.f170 zw (by kernel_rfl) (by kernel_rfl) fun x=>by kernel_rfl
theorem EJ(fu:Nat):zg Tryz.prog (QD (qy fu)):=(AU fu).le (PU fu)
theorem CP(fu:Nat)(Af:List ze->Option (List ze))(hs:zg Tryz.prog (ni Af)):zg Tryz.prog (ni (Mw fu Af)):=
 okC (A:=⟨[QD (qy fu),ni Af],[],[],0,[(3,⟨[8],⟨[.int .i64],[(0, .sl 135)]⟩,[0,2,7],[],[0],0,[],⟨[],[(0, .sl 135)]⟩,[0]⟩)],[],[],some fu⟩) (exS:=⟨[.sl 135],[]⟩) Tryz.f246 (memC (EJ fu) (memC hs zw)) (by kernel_rfl) (by kernel_rfl) fun x=>by kernel_rfl
theorem JG(fu:Nat):zg Tryz.prog (ni (Af fu)):=
 zg.iter (I:=I) (P:=Tryz.prog) (f:=246) (inS:=⟨[.sl 135],[]⟩) (cst:=[]) (outS:=⟨[.sl 135],[]⟩) (k:=0) (Mw fu) (by kernel_rfl) (fun S h=>CP fu S h) fu
theorem Fy(fu:Nat):zg Tryz.prog (Pq (Vh fu)):=
 okC (A:=⟨[Qf (ZU fu),ni (Af fu)],[(12,[7]),(15,[5])],[],0,[(9,⟨[7,8,24],⟨[.own 1328, .int .i64, .int .i64],[(1328, .sl 31)]⟩,[0,1,4,5,22,23],[],[],0,[7,8],⟨[.own 1328, .int .i64],[(1328, .sl 31)]⟩,[1328]⟩)],[(14,⟨[7,8,24],⟨[.own 1430, .int .i64, .int .i64],[(1430, .sl 31)]⟩,[],[],[],0,[],⟨[],[]⟩,[]⟩)],[],some fu⟩) (exS:=⟨[.sl 31, .int .i64],[]⟩) Tryz.f197 (memC (Qn fu) (memC (JG fu) zw)) (by kernel_rfl) (by kernel_rfl) fun x=>by kernel_rfl
theorem Uh(fu:Nat):zg Tryz.prog (ig (QN fu)):=
 okC (A:=⟨[],[],[],0,[],[],[],some fu⟩) (exS:=⟨[.bool],[]⟩) Tryz.f95 zw (by kernel_rfl) (by kernel_rfl) fun x=>by kernel_rfl
theorem MP(fu:Nat):zg Tryz.prog (aF (Uk fu)):=
 okC (A:=⟨[ig (QN fu)],[],[],0,[(1,⟨[0],⟨[.sl 135],[]⟩,[2],[],[],0,[0],⟨[.sl 135],[]⟩,[]⟩)],[],[],some fu⟩) (exS:=⟨[.sl 135],[]⟩) Tryz.f292 (memC (Uh fu) zw) (by kernel_rfl) (by kernel_rfl) fun x=>by kernel_rfl
theorem VQ(fu:Nat):zg Tryz.prog (uF (Jl fu)):=
 okC (A:=⟨[ig (QN fu)],[],[],0,[(1,⟨[0],⟨[.sl 135],[]⟩,[2],[],[],0,[0],⟨[.sl 135],[]⟩,[]⟩)],[],[],some fu⟩) (exS:=⟨[.sl 135],[]⟩) Tryz.f291 (memC (Uh fu) zw) (by kernel_rfl) (by kernel_rfl) fun x=>by kernel_rfl
theorem NG(fu:Nat):zg Tryz.prog (iw (Vk fu)):=
 okC (A:=⟨[ig (QN fu)],[],[],0,[],[],[],some fu⟩) (exS:=⟨[.bool],[]⟩) Tryz.f96 (memC (Uh fu) zw) (by kernel_rfl) (by kernel_rfl) fun x=>by kernel_rfl
theorem IR(fu:Nat):zg Tryz.prog (WG (Hq fu)):=
 okC (A:=⟨[],[],[],1,[],[],[],some fu⟩) (exS:=⟨[.bool],[]⟩) Tryz.f247 zw (by kernel_rfl) (by kernel_rfl) fun x=>by kernel_rfl
theorem Gx(fu:Nat):zg Tryz.prog (Jq (Mh fu)):=
 okC (A:=⟨[Qf (ZU fu),WG (Hq fu),ni (Af fu)],[],[],0,[(6,⟨[6],⟨[.int .i64],[]⟩,[1,2,3,5,7],[0],[],0,[6],⟨[.int .i64],[]⟩,[]⟩),(8,⟨[7],⟨[.int .i64],[]⟩,[1,2,3,5,6],[0],[],2,[7],⟨[.int .i64],[]⟩,[]⟩)],[],[],some fu⟩) (exS:=⟨[.sl 135, .int .i64],[]⟩) Tryz.f198 (memC (Qn fu) (memC (IR fu) (memC (JG fu) zw))) (by kernel_rfl) (by kernel_rfl) fun x=>by kernel_rfl
theorem WQ(fu:Nat):zg Tryz.prog (vF (kv fu)):=
 okC (A:=⟨[Zn (strings_IndexByte fu),Zm (strings_HasPrefix fu),ZO (Ze fu)],[],[],0,[],[],[],some fu⟩) (exS:=⟨[.bool],[]⟩) Tryz.f90 (memC (Zp fu) (memC (Zo fu) (memC (ZN fu) zw))) (by kernel_rfl) (by kernel_rfl) fun x=>by kernel_rfl
theorem xU(fu:Nat):zg Tryz.prog (uJ (stringslite_TrimPrefix fu)):=
 okC (A:=⟨[Q7 (stringslite_HasPrefix fu)],[],[],0,[],[],[],some fu⟩) (exS:=⟨[.str],[]⟩) Tryz.f295 (memC (oJ fu) zw) (by kernel_rfl) (by kernel_rfl) fun x=>by kernel_rfl
theorem KT(fu:Nat):zg Tryz.prog (xI (strings_TrimPrefix fu)):=
 okC (A:=⟨[uJ (stringslite_TrimPrefix fu)],[],[],0,[],[],[],some fu⟩) (exS:=⟨[.str],[]⟩) Tryz.f259 (memC (xU fu) zw) (by kernel_rfl) (by kernel_rfl) fun x=>by kernel_rfl
theorem Pm(fu:Nat):zg Tryz.prog (Ej (QO fu)):=
 okC (A:=⟨[],[],[],0,[],[],[],some fu⟩) (exS:=⟨[.bool],[]⟩) Tryz.f260 zw (by kernel_rfl) (by kernel_rfl) fun x=>by kernel_rfl
theorem Pz(fu:Nat):zg Tryz.prog (Xq (ah fu)):=
 okC (A:=⟨[xI (strings_TrimPrefix fu),Ej (QO fu)],[],[],0,[],[],[],some fu⟩) (exS:=⟨[.bool],[]⟩) Tryz.f207 (memC (KT fu) (memC (Pm fu) zw)) (by kernel_rfl) (by kernel_rfl) fun x=>by kernel_rfl
theorem yG(fu:Nat):zg Tryz.prog (Wy (Wl fu)):=
 okC (A:=⟨[],[],[],0,[],[],[],some fu⟩) (exS:=⟨[.bool],[]⟩) Tryz.f261 zw (by kernel_rfl) (by kernel_rfl) fun x=>by kernel_rfl
theorem Hy(fu:Nat):zg Tryz.prog (Sq (Ph fu)):=
 okC (A:=⟨[Wy (Wl fu),Ej (QO fu)],[],[],0,[],[],[],some fu⟩) (exS:=⟨[.bool],[]⟩) Tryz.f208 (memC (yG fu) (memC (Pm fu) zw)) (by kernel_rfl) (by kernel_rfl) fun x=>by kernel_rfl
theorem jS(fu:Nat):zg Tryz.prog (FI (strings_Contains fu)):=
 okC (A:=⟨[mo Tg],[],[],0,[],[],[],some fu⟩) (exS:=⟨[.bool],[]⟩) Tryz.f209 (memC Av zw) (by kernel_rfl) (by kernel_rfl) fun x=>by kernel_rfl
theorem MG(fu:Nat):zg Tryz.prog (fw (Bl fu)):=
 okC (A:=⟨[Zn (strings_IndexByte fu),Xq (ah fu),Zm (strings_HasPrefix fu),Sq (Ph fu),FI (strings_Contains fu)],[],[],0,[],[(8,⟨[3,4,5,6,7,25],⟨[.bool, .bool, .bool, .bool, .bool, .bool],[]⟩,[1,16],[],[],0,[],⟨[],[]⟩,[]⟩),(14,⟨[3,4,5,6,7,63],⟨[.bool, .bool, .bool, .bool, .bool, .bool],[]⟩,[],[],[],0,[],⟨[],[]⟩,[]⟩),(22,⟨[4,5,6,7,94],⟨[.bool, .bool, .bool, .bool, .bool],[]⟩,[3],[],[],0,[],⟨[],[]⟩,[]⟩),(24,⟨[3,4,5,6,7],⟨[.bool, .bool, .bool, .bool, .bool],[]⟩,[1],[0],[],0,[],⟨[],[]⟩,[]⟩)],[],some fu⟩) (exS:=⟨[.bool],[]⟩) Tryz.f151 (memC (Zp fu) (memC (Pz fu) (memC (Zo fu) (memC (Hy fu) (memC (jS fu) zw))))) (by kernel_rfl) (by kernel_rfl) fun x=>by kernel_rfl
theorem tQ(fu:Nat):zg Tryz.prog (SH (Am fu)):=
 okC (A:=⟨[],[],[],1,[],[],[],some fu⟩) (exS:=⟨[.bool],[]⟩) Tryz.f210 zw (by kernel_rfl) (by kernel_rfl) fun x=>by kernel_rfl
theorem iG(fu:Nat):zg Tryz.prog (Yx (Nl fu)):=
 okC (A:=⟨[SH (Am fu),Qe (ZH fu)],[],[],0,[],[(11,⟨[5],⟨[.int .i64],[]⟩,[3],[0],[],0,[],⟨[],[]⟩,[]⟩)],[],some fu⟩) (exS:=⟨[.int .i64],[]⟩) Tryz.f152 (memC (tQ fu) (memC (Qu fu) zw)) (by kernel_rfl) (by kernel_rfl) fun x=>by kernel_rfl
theorem kG(fu:Nat):zg Tryz.prog (dx (Rl fu)):=
 okC (A:=⟨[fw (Bl fu),Yx (Nl fu)],[],[],0,[(4,⟨[10],⟨[.int .i64],[]⟩,[0,8,9],[],[],0,[],⟨[],[]⟩,[]⟩)],[],[],some fu⟩) (exS:=⟨[.int .i64],[]⟩) Tryz.f91 (memC (MG fu) (memC (iG fu) zw)) (by kernel_rfl) (by kernel_rfl) fun x=>by kernel_rfl
theorem yR(fu:Nat)(zS:List ze->Option Bool)(h_decl_closers:zg Tryz.prog (qM zS)):zg Tryz.prog (mH (Cz fu zS)):=
 okC (A:=⟨[ig (QN fu),qM zS],[],[],0,[],[],[],some fu⟩) (exS:=⟨[.bool],[]⟩) Tryz.f153 (memC (Uh fu) (memC h_decl_closers zw)) (by kernel_rfl) (by kernel_rfl) fun x=>by kernel_rfl
theorem NV(fu:Nat)(zS:List ze->Option Bool)(h_decl_closers:zg Tryz.prog (qM zS)):zg Tryz.prog (fJ (QU fu zS)):=
 okC (A:=⟨[mH (Cz fu zS)],[],[],0,[(2,⟨[8],⟨[.int .i64],[]⟩,[0,1,7],[],[],0,[],⟨[],[]⟩,[]⟩)],[],[],some fu⟩) (exS:=⟨[.int .i64],[]⟩) Tryz.f137 (memC (yR fu zS h_decl_closers) zw) (by kernel_rfl) (by kernel_rfl) fun x=>by kernel_rfl
theorem LV(fu:Nat)(zS:List ze->Option Bool)(h_decl_closers:zg Tryz.prog (qM zS)):zg Tryz.prog (GK (Qw fu zS)):=
 okC (A:=⟨[fJ (QU fu zS)],[],[],0,[],[],[],some fu⟩) (exS:=⟨[.bool],[]⟩) Tryz.f93 (memC (NV fu zS h_decl_closers) zw) (by kernel_rfl) (by kernel_rfl) fun x=>by kernel_rfl
theorem gQ(fu:Nat)(zS:List ze->Option Bool)(hs:zg Tryz.prog (qM zS)):zg Tryz.prog (qM (Bz fu zS)):=
 okC (A:=⟨[GK (Qw fu zS)],[],[],0,[],[],[],some fu⟩) (exS:=⟨[.bool],[]⟩) Tryz.f92 (memC (LV fu zS hs) zw) (by kernel_rfl) (by kernel_rfl) fun x=>by kernel_rfl
theorem uQ(fu:Nat):zg Tryz.prog (qM (zS fu)):=
 zg.iter (I:=I) (P:=Tryz.prog) (f:=92) (inS:=⟨[.sl 135],[]⟩) (cst:=[]) (outS:=⟨[.bool],[]⟩) (k:=0) (Bz fu) (by kernel_rfl) (fun S h=>gQ fu S h) fu
theorem vQ(fu:Nat):zg Tryz.prog (TH (Ux fu)):=
 okC (A:=⟨[ig (QN fu),iw (Vk fu)],[],[],0,[],[],[],some fu⟩) (exS:=⟨[.bool],[]⟩) Tryz.f94 (memC (Uh fu) (memC (NG fu) zw)) (by kernel_rfl) (by kernel_rfl) fun x=>by kernel_rfl
theorem MV(fu:Nat):zg Tryz.prog (dJ (QV fu)):=
 okC (A:=⟨[TH (Ux fu)],[],[],0,[(2,⟨[8],⟨[.int .i64],[]⟩,[0,1,7],[],[],0,[],⟨[],[]⟩,[]⟩)],[],[],some fu⟩) (exS:=⟨[.int .i64],[]⟩) Tryz.f137 (memC (vQ fu) zw) (by kernel_rfl) (by kernel_rfl) fun x=>by kernel_rfl
theorem VV(fu:Nat):zg Tryz.prog (wJ (qW fu)):=
 okC (A:=⟨[dJ (QV fu)],[],[],0,[],[],[],some fu⟩) (exS:=⟨[.bool],[]⟩) Tryz.f93 (memC (MV fu) zw) (by kernel_rfl) (by kernel_rfl) fun x=>by kernel_rfl
theorem Vq(fu:Nat):zg Tryz.prog (Gm (Jg fu)):=
 okC (A:=⟨[dw (uk fu),vF (kv fu),dx (Rl fu),qM (zS fu),wJ (qW fu),Zm (strings_HasPrefix fu),ig (QN fu)],[],[],0,[],[],[],some fu⟩) (exS:=⟨[.int .i64],[]⟩) Tryz.f48 (memC (LG fu) (memC (WQ fu) (memC (kG fu) (memC (uQ fu) (memC (VV fu) (memC (Zo fu) (memC (Uh fu) zw))))))) (by kernel_rfl) (by kernel_rfl) fun x=>by kernel_rfl
theorem uE(fu:Nat):zg Tryz.prog (Bw (Rk fu)):=
 okC (A:=⟨[aF (Uk fu),uF (Jl fu),ig (QN fu),Zm (strings_HasPrefix fu),ZO (Ze fu),Qe (ZH fu),iw (Vk fu),Jq (Mh fu),Gm (Jg fu)],[],[],0,[],[(7,⟨[0],⟨[.sl 135],[(0, .cells 33 [.str, .nilv, .bool]),(1, .cells 33 [.str, .nilv, .bool])]⟩,[2,4],[],[0,1],0,[],⟨[],[]⟩,[]⟩),(16,⟨[0],⟨[.sl 135],[(0, .cells 33 [.str, .nilv, .bool]),(1, .cells 33 [.str, .nilv, .bool])]⟩,[],[],[0,1],0,[],⟨[],[]⟩,[]⟩)],[],some fu⟩) (exS:=⟨[.optr 0, .bool],[(0, .row 33)]⟩) Tryz.f245 (memC (MP fu) (memC (VQ fu) (memC (Uh fu) (memC (Zo fu) (memC (ZN fu) (memC (Qu fu) (memC (NG fu) (memC (Gx fu) (memC (Vq fu) zw))))))))) (by kernel_rfl) (by kernel_rfl) fun x=>by kernel_rfl
theorem sN(fu:Nat):zg Tryz.prog (xD (Fu fu)):=
 okC (A:=⟨[Pq (Vh fu),Bw (Rk fu)],[(10,[2])],[],0,[(6,⟨[6,21],⟨[.own 1432, .int .i64],[(1432, .sl 33)]⟩,[2,3,19,20],[],[],0,[6],⟨[.own 1432],[(1432, .sl 33)]⟩,[1432]⟩)],[(11,⟨[6,21],⟨[.own 1534, .int .i64],[(1534, .sl 33)]⟩,[],[],[],0,[],⟨[],[]⟩,[]⟩)],[],some fu⟩) (exS:=⟨[.sl 33, .int .i64],[]⟩) Tryz.f196 (memC (Fy fu) (memC (uE fu) zw)) (by kernel_rfl) (by kernel_rfl) fun x=>by kernel_rfl
theorem AR(fu:Nat):zg Tryz.prog (PG (Iw fu)):=
 okC (A:=⟨[rF (Gw fu),xD (Fu fu)],[],[],0,[],[],[],some fu⟩) (exS:=⟨[.optr 0, .bool],[(0, .row 39)]⟩) Tryz.f140 (memC (SQ fu) (memC (sN fu) zw)) (by kernel_rfl) (by kernel_rfl) fun x=>by kernel_rfl
theorem dH(fu:Nat):zg Tryz.prog (Gz (Xm fu)):=
 okC (A:=⟨[Zn (strings_IndexByte fu)],[],[],0,[],[],[],some fu⟩) (exS:=⟨[.bool],[]⟩) Tryz.f81 (memC (Zp fu) zw) (by kernel_rfl) (by kernel_rfl) fun x=>by kernel_rfl
theorem rU(fu:Nat):zg Tryz.prog (nJ (CB fu)):=
 okC (A:=⟨[Gz (Xm fu)],[],[],1,[(2,⟨[8],⟨[.int .i64],[]⟩,[0,1,7],[],[],0,[],⟨[],[]⟩,[]⟩)],[],[],some fu⟩) (exS:=⟨[.int .i64],[]⟩) Tryz.f144 (memC (dH fu) zw) (by kernel_rfl) (by kernel_rfl) fun x=>by kernel_rfl
theorem UV(fu:Nat):zg Tryz.prog (JK (Qc fu)):=
 okC (A:=⟨[nJ (CB fu)],[],[],1,[],[],[],some fu⟩) (exS:=⟨[.bool],[]⟩) Tryz.f80 (memC (rU fu) zw) (by kernel_rfl) (by kernel_rfl) fun x=>by kernel_rfl
theorem BR(fu:Nat):zg Tryz.prog (RG (Jw fu)):=
 okC (A:=⟨[JK (Qc fu)],[],[],1,[],[],[],some fu⟩) (exS:=⟨[.bool],[]⟩) Tryz.f43 (memC (UV fu) zw) (by kernel_rfl) (by kernel_rfl) fun x=>by kernel_rfl
theorem vP(fu:Nat):zg Tryz.prog (oF (Fw fu)):=
 okC (A:=⟨[Jq (Mh fu),RG (Jw fu)],[(14,[3])],[],0,[(6,⟨[5,24],⟨[.own 1536, .int .i64],[(1536, .sl 9)]⟩,[22,23],[],[],0,[5],⟨[.own 1536],[(1536, .sl 9)]⟩,[1536]⟩)],[(15,⟨[5,24],⟨[.own 1638, .int .i64],[(1638, .sl 9)]⟩,[],[],[],0,[],⟨[],[]⟩,[]⟩)],[],some fu⟩) (exS:=⟨[.sl 9, .bool],[]⟩) Tryz.f199 (memC (Gx fu) (memC (BR fu) zw)) (by kernel_rfl) (by kernel_rfl) fun x=>by kernel_rfl
theorem pG(fu:Nat):zg Tryz.prog (Py (ll fu)):=
 okC (A:=⟨[Pq (Vh fu),Jq (Mh fu),oF (Fw fu)],[(16,[3])],[],0,[(11,⟨[42],⟨[.int .i64],[(0, .cells 39 [.int .u8, .nilv, .nilv, .int .u8, .str, .int .i64, .str, .nilv, .bool, .nilv, .nilv, .nilv]),(1, .cells 39 [.int .u8, .nilv, .nilv, .int .u8, .str, .int .i64, .str, .nilv, .bool, .nilv, .own 1639, .nilv]),(1639, .sl 59)]⟩,[40,41],[],[0,1],0,[],⟨[],[(0, .cells 39 [.int .u8, .nilv, .nilv, .int .u8, .str, .int .i64, .str, .nilv, .bool, .nilv, .nilv, .nilv]),(1, .cells 39 [.int .u8, .nilv, .nilv, .int .u8, .str, .int .i64, .str, .nilv, .bool, .nilv, .own 1639, .nilv]),(1639, .sl 59)]⟩,[0,1,1639]⟩)],[(10,⟨[],⟨[],[(0, .cells 39 [.int .u8, .nilv, .nilv, .int .u8, .str, .int .i64, .str, .nilv, .bool, .nilv, .nilv, .nilv]),(1, .cells 39 [.int .u8, .nilv, .nilv, .int .u8, .str, .int .i64, .str, .nilv, .bool, .nilv, .nilv, .nilv])]⟩,[1,4,6,8],[],[0,1],0,[],⟨[],[]⟩,[]⟩)],[],some fu⟩) (exS:=⟨[.optr 0, .bool],[(0, .row 39)]⟩) Tryz.f141 (memC (Fy fu) (memC (Gx fu) (memC (vP fu) zw))) (by kernel_rfl) (by kernel_rfl) fun x=>by kernel_rfl
theorem qR(fu:Nat):zg Tryz.prog (qo (Zf fu)):=
 okC (A:=⟨[],[],[],1,[],[],[],some fu⟩) (exS:=⟨[.int .u8],[]⟩) Tryz.f248 zw (by kernel_rfl) (by kernel_rfl) fun x=>by kernel_rfl
theorem qU(fu:Nat):zg Tryz.prog (qp (Zg fu)):=
 okC (A:=⟨[],[],[],1,[],[],[],some fu⟩) (exS:=⟨[.optr 1],[(0, .row 242),(1, .row 135)]⟩) Tryz.f249 zw (by kernel_rfl) (by kernel_rfl) fun x=>by kernel_rfl
theorem Qm(fu:Nat):zg Tryz.prog (qF (zH fu)):=
 okC (A:=⟨[qo (Zf fu),qp (Zg fu)],[],[],1,[(2,⟨[],⟨[],[(0, .row 242)]⟩,[0,2,3],[],[0],0,[],⟨[],[(0, .row 242)]⟩,[0]⟩)],[],[],some fu⟩) (exS:=⟨[.bool],[(0, .row 242)]⟩) Tryz.f200 (memC (qR fu) (memC (qU fu) zw)) (by kernel_rfl) (by kernel_rfl) fun x=>by kernel_rfl
theorem bA(fu:Nat):zg Tryz.prog (Dr (ZP fu)):=
 okC (A:=⟨[qo (Zf fu),Qe (ZH fu),qp (Zg fu)],[],[],1,[(2,⟨[9],⟨[.int .i64],[(0, .row 242)]⟩,[0,7,8],[],[0],0,[],⟨[],[(0, .row 242)]⟩,[0]⟩)],[],[],some fu⟩) (exS:=⟨[.str],[(0, .row 242)]⟩) Tryz.f250 (memC (qR fu) (memC (Qu fu) (memC (qU fu) zw))) (by kernel_rfl) (by kernel_rfl) fun x=>by kernel_rfl
theorem AV(fu:Nat):zg Tryz.prog (kJ (slices_Contains_string fu)):=
 okC (A:=⟨[Qh (slices_Index_string fu)],[],[],0,[],[],[],some fu⟩) (exS:=⟨[.bool],[]⟩) Tryz.f262 (memC (xA fu) zw) (by kernel_rfl) (by kernel_rfl) fun x=>by kernel_rfl
theorem FH(fu:Nat):zg Tryz.prog (Ey (jl fu)):=
 okC (A:=⟨[kJ (slices_Contains_string fu),ZO (Ze fu),Zn (strings_IndexByte fu)],[(1,[0])],[],0,[],[],[],some fu⟩) (exS:=⟨[.bool],[]⟩) Tryz.f212 (memC (AV fu) (memC (ZN fu) (memC (Zp fu) zw))) (by kernel_rfl) (by kernel_rfl) fun x=>by kernel_rfl
theorem BH(fu:Nat):zg Tryz.prog (Cy (Xl fu)):=
 okC (A:=⟨[],[],[],0,[(2,⟨[7],⟨[.int .i64],[]⟩,[5,6],[],[],0,[],⟨[],[]⟩,[]⟩)],[],[],some fu⟩) (exS:=⟨[.int .i64],[]⟩) Tryz.f263 zw (by kernel_rfl) (by kernel_rfl) fun x=>by kernel_rfl
theorem EH(fu:Nat):zg Tryz.prog (Dy (Yl fu)):=
 okC (A:=⟨[Cy (Xl fu)],[(1,[1])],[],0,[],[],[],some fu⟩) (exS:=⟨[.int .i64],[]⟩) Tryz.f213 (memC (BH fu) zw) (by kernel_rfl) (by kernel_rfl) fun x=>by kernel_rfl
theorem LU(fu:Nat):zg Tryz.prog (vI (Q8 fu)):=
 okC (A:=⟨[qo (Zf fu),qp (Zg fu),qF (zH fu),Dr (ZP fu),Qe (ZH fu),Dy (Yl fu)],[(6,[1])],[],1,[],[(11,⟨[],⟨[],[(1, .cells 36 [.int .u8, .str, .int .i64, .str, .nilv, .bool, .nilv]),(2, .row 242),(3, .cells 36 [.int .u8, .str, .int .i64, .str, .nilv, .bool, .nilv])]⟩,[2,4,5],[0],[1,2,3],0,[],⟨[],[]⟩,[]⟩)],[],some fu⟩) (exS:=⟨[.optr 1, .bool],[(0, .row 242),(1, .row 36)]⟩) Tryz.f251 (memC (qR fu) (memC (qU fu) (memC (Qm fu) (memC (bA fu) (memC (Qu fu) (memC (EH fu) zw)))))) (by kernel_rfl) (by kernel_rfl) fun x=>by kernel_rfl
theorem XT(fu:Nat):zg Tryz.prog (WI (xz fu)):=
 okC (A:=⟨[qF (zH fu),Dr (ZP fu),qo (Zf fu),qp (Zg fu),ZO (Ze fu),Ey (jl fu),vI (Q8 fu)],[(3,[1]),(9,[4]),(13,[3]),(17,[1]),(23,[3]),(25,[1])],[(25,[(4,some 6)])],1,[(15,⟨[],⟨[],[(0, .row 242),(1, .cells 36 [.int .u8, .str, .int .i64, .str, .nilv, .bool, .nilv]),(2, .cells 36 [.int .u8, .str, .int .i64, .str, .nilv, .bool, .own 1742]),(1742, .sl 36)]⟩,[],[],[0,1,2],0,[],⟨[],[(0, .row 242),(1, .cells 36 [.int .u8, .str, .int .i64, .str, .nilv, .bool, .nilv]),(2, .cells 36 [.int .u8, .str, .int .i64, .str, .nilv, .bool, .own 1742]),(1742, .sl 36)]⟩,[0,1,2,1742]⟩)],[(14,⟨[],⟨[],[(0, .row 242),(1, .cells 36 [.int .u8, .str, .int .i64, .str, .nilv, .bool, .nilv]),(2, .cells 36 [.int .u8, .str, .int .i64, .str, .nilv, .bool, .own 1640]),(1640, .sl 36)]⟩,[0,2,4,5],[],[0,1,2],0,[],⟨[],[]⟩,[]⟩),(26,⟨[],⟨[],[(1, .cells 36 [.int .u8, .str, .int .i64, .str, .nilv, .bool, .nilv]),(2, .cells 36 [.int .u8, .str, .int .i64, .str, .nilv, .bool, .sl 36])]⟩,[],[0],[1,2],0,[],⟨[],[]⟩,[]⟩)],[],some fu⟩) (exS:=⟨[.optr 1, .bool],[(0, .row 242),(1, .row 36)]⟩) Tryz.f201 (memC (Qm fu) (memC (bA fu) (memC (qR fu) (memC (qU fu) (memC (ZN fu) (memC (FH fu) (memC (LU fu) zw))))))) (by kernel_rfl) (by kernel_rfl) fun x=>by kernel_rfl
theorem lG(fu:Nat):zg Tryz.prog (yx (Kl fu)):=
 okC (A:=⟨[Pq (Vh fu),qF (zH fu),WI (xz fu)],[(17,[1]),(18,[1]),(19,[3])],[],0,[(13,⟨[44],⟨[.int .i64],[(1, .cells 36 [.int .u8, .str, .int .i64, .str, .nilv, .bool, .own 1743]),(1743, .sl 36)]⟩,[7,42,43],[0],[1],0,[],⟨[],[(1, .cells 36 [.int .u8, .str, .int .i64, .str, .nilv, .bool, .own 1743]),(1743, .sl 36)]⟩,[1,1743]⟩)],[(9,⟨[],⟨[],[(0, .cells 36 [.int .u8, .str, .int .i64, .str, .nilv, .bool, .nilv])]⟩,[2,4],[],[0],0,[],⟨[],[]⟩,[]⟩),(19,⟨[],⟨[],[(1, .cells 36 [.int .u8, .str, .int .i64, .str, .nilv, .bool, .own 1743]),(1743, .sl 36),(1745, .row 36)]⟩,[10,44],[],[1,1743,1745],0,[],⟨[],[]⟩,[]⟩)],[],some fu⟩) (exS:=⟨[.optr 0, .int .i64],[(0, .row 36)]⟩) Tryz.f142 (memC (Fy fu) (memC (Qm fu) (memC (XT fu) zw))) (by kernel_rfl) (by kernel_rfl) fun x=>by kernel_rfl
theorem OP(fu:Nat):zg Tryz.prog (xE (Ru fu)):=
 okC (A:=⟨[Qf (ZU fu),Bw (Rk fu)],[],[],0,[],[],[],some fu⟩) (exS:=⟨[.optr 0, .bool, .int .i64],[(0, .row 33)]⟩) Tryz.f293 (memC (Qn fu) (memC (uE fu) zw)) (by kernel_rfl) (by kernel_rfl) fun x=>by kernel_rfl
theorem aS(fu:Nat)(zX:zo->Option ((zq×Bool)×zo))(h_cond_reader_told:zg Tryz.prog (qw zX)):zg Tryz.prog (MI (um fu zX)):=
 okC (A:=⟨[qo (Zf fu),qp (Zg fu),xE (Ru fu),qw zX],[],[],1,[],[],[],some fu⟩) (exS:=⟨[.optr 1, .bool],[(0, .row 242),(1, .row 36)]⟩) Tryz.f252 (memC (qR fu) (memC (qU fu) (memC (OP fu) (memC h_cond_reader_told zw)))) (by kernel_rfl) (by kernel_rfl) fun x=>by kernel_rfl
theorem KS(fu:Nat)(zX:zo->Option ((zq×Bool)×zo))(hs:zg Tryz.prog (qw zX)):zg Tryz.prog (qw (wz fu zX)):=
 okC (A:=⟨[qF (zH fu),Dr (ZP fu),MI (um fu zX)],[(2,[1]),(6,[1]),(15,[5]),(23,[3])],[],1,[(14,⟨[9],⟨[.bool],[(0, .row 242),(1, .cells 36 [.int .u8, .str, .int .i64, .str, .nilv, .bool, .nilv]),(5, .cells 36 [.int .u8, .str, .int .i64, .str, .nilv, .bool, .own 1744]),(1744, .sl 36)]⟩,[0,2,10],[],[0,1,5],0,[],⟨[],[(0, .row 242),(1, .cells 36 [.int .u8, .str, .int .i64, .str, .nilv, .bool, .nilv]),(5, .cells 36 [.int .u8, .str, .int .i64, .str, .nilv, .bool, .own 1744]),(1744, .sl 36)]⟩,[0,1,5,1744]⟩)],[],[],some fu⟩) (exS:=⟨[.optr 1, .bool],[(0, .row 242),(1, .row 36)]⟩) Tryz.f202 (memC (Qm fu) (memC (bA fu) (memC (aS fu zX hs) zw))) (by kernel_rfl) (by kernel_rfl) fun x=>by kernel_rfl
theorem uS(fu:Nat):zg Tryz.prog (qw (zX fu)):=
 zg.iter (I:=I) (P:=Tryz.prog) (f:=202) (inS:=⟨[.optr 0],[(0, .row 242)]⟩) (cst:=[]) (outS:=⟨[.val 36, .bool],[(0, .row 242)]⟩) (k:=0) (wz fu) (by kernel_rfl) (fun S h=>KS fu S h) fu
theorem Gy(fu:Nat):zg Tryz.prog (Rq (Wh fu)):=
 okC (A:=⟨[Qf (ZU fu),si (Ff fu)],[],[],0,[],[],[],some fu⟩) (exS:=⟨[.int .i64, .int .i64],[]⟩) Tryz.f47 (memC (Qn fu) (memC (KG fu) zw)) (by kernel_rfl) (by kernel_rfl) fun x=>by kernel_rfl
theorem Oq(fu:Nat):zg Tryz.prog (Vl (Gf fu)):=
 okC (A:=⟨[],[],[],0,[],[],[],some fu⟩) (exS:=⟨[.bool],[]⟩) Tryz.f101 zw (by kernel_rfl) (by kernel_rfl) fun x=>by kernel_rfl
theorem kF(fu:Nat):zg Tryz.prog (lw (ek fu)):=
 okC (A:=⟨[],[],[],0,[],[],[],some fu⟩) (exS:=⟨[.bool],[]⟩) Tryz.f158 zw (by kernel_rfl) (by kernel_rfl) fun x=>by kernel_rfl
theorem FP(fu:Nat)(Gg:zq×Int->Option ((Int×Bool)×Int))(hs:zg Tryz.prog (Ul Gg)):zg Tryz.prog (Ul (Xw fu Gg)):=
 okC (A:=⟨[Rq (Wh fu),Gm (Jg fu),Vl (Gf fu),Ul Gg,lw (ek fu)],[],[],1,[(19,⟨[9,97],⟨[.int .i64, .int .i64],[(0, .row 3)]⟩,[1,95,96],[],[0],1,[9],⟨[.int .i64],[(0, .row 3)]⟩,[0]⟩)],[(15,⟨[69],⟨[.bool],[]⟩,[1,2,6],[0,1],[],0,[],⟨[],[]⟩,[]⟩),(26,⟨[9,12],⟨[.int .i64, .int .i64],[]⟩,[97],[0],[],0,[],⟨[],[]⟩,[]⟩)],[],some fu⟩) (exS:=⟨[.int .i64, .bool],[(0, .row 3)]⟩) Tryz.f102 (memC (Gy fu) (memC (Vq fu) (memC (Oq fu) (memC hs (memC (kF fu) zw))))) (by kernel_rfl) (by kernel_rfl) fun x=>by kernel_rfl
theorem CQ(fu:Nat):zg Tryz.prog (Ul (Gg fu)):=
 zg.iter (I:=I) (P:=Tryz.prog) (f:=102) (inS:=⟨[.val 36, .optr 0],[(0, .row 3)]⟩) (cst:=[]) (outS:=⟨[.int .i64, .bool],[(0, .row 3)]⟩) (k:=0) (Xw fu) (by kernel_rfl) (fun S h=>FP fu S h) fu
theorem LB(fu:Nat):zg Tryz.prog (QC (ZY fu)):=
 okC (A:=⟨[Ul (Gg fu)],[],[],0,[],[],[],some fu⟩) (exS:=⟨[.int .i64],[]⟩) Tryz.f52 (memC (CQ fu) zw) (by kernel_rfl) (by kernel_rfl) fun x=>by kernel_rfl
theorem kH(fu:Nat):zg Tryz.prog (Nz (Um fu)):=
 okC (A:=⟨[Qf (ZU fu),qw (zX fu),QC (ZY fu)],[],[],0,[],[],[],some fu⟩) (exS:=⟨[.optr 0, .int .i64],[(0, .row 36)]⟩) Tryz.f143 (memC (Qn fu) (memC (uS fu) (memC (LB fu) zw))) (by kernel_rfl) (by kernel_rfl) fun x=>by kernel_rfl
theorem FU(fu:Nat):zg Tryz.prog (nI (WA fu)):=
 okC (A:=⟨[Py (ll fu),yx (Kl fu),Nz (Um fu)],[],[],1,[],[(13,⟨[13],⟨[.bool],[(0, .row 80),(1, .cells 39 [.int .u8, .nilv, .nilv, .int .u8, .str, .int .i64, .str, .nilv, .bool, .nilv, .nilv, .nilv]),(2, .row 39)]⟩,[0,4,10,12],[],[0,1,2],0,[],⟨[],[]⟩,[]⟩)],[],some fu⟩) (exS:=⟨[.optr 1, .bool],[(0, .row 80),(1, .row 39)]⟩) Tryz.f78 (memC (pG fu) (memC (lG fu) (memC (kH fu) zw))) (by kernel_rfl) (by kernel_rfl) fun x=>by kernel_rfl
theorem uT(fu:Nat)(zP:(List ze×Bool)×zy->Option (List zD×zy))(h_sheet_parser_rules:zg Tryz.prog (ZG zP)):zg Tryz.prog (SI (az fu zP)):=
 okC (A:=⟨[PG (Iw fu),Py (ll fu),yx (Kl fu),Nz (Um fu),ZG zP],[],[],1,[],[(13,⟨[13],⟨[.bool],[(0, .row 80),(1, .cells 39 [.int .u8, .nilv, .nilv, .int .u8, .str, .int .i64, .str, .nilv, .bool, .nilv, .nilv, .nilv]),(2, .row 39)]⟩,[0,4,10,12],[],[0,1,2],0,[],⟨[],[]⟩,[]⟩),(18,⟨[],⟨[],[(0, .row 80),(1, .cells 39 [.int .u8, .nilv, .nilv, .int .u8, .str, .int .i64, .str, .nilv, .bool, .nilv, .nilv, .nilv]),(2, .row 39)]⟩,[],[],[0,1,2],0,[],⟨[],[]⟩,[]⟩)],[],some fu⟩) (exS:=⟨[.optr 1, .bool],[(0, .row 80),(1, .row 39)]⟩) Tryz.f78 (memC (AR fu) (memC (pG fu) (memC (lG fu) (memC (kH fu) (memC h_sheet_parser_rules zw))))) (by kernel_rfl) (by kernel_rfl) fun x=>by kernel_rfl
theorem fT(fu:Nat)(zP:(List ze×Bool)×zy->Option (List zD×zy))(hs:zg Tryz.prog (ZG zP)):zg Tryz.prog (ZG (OA fu zP)):=
 okC (A:=⟨[pF (gp fu),ZO (Ze fu),OG (Hw fu),SI (az fu zP),nI (WA fu)],[(10,[7]),(22,[2])],[],1,[(2,⟨[1,7],⟨[.sl 135, .own 1745],[(0, .row 80),(1745, .sl 39)]⟩,[0,2,6],[],[0],0,[7],⟨[.own 1745],[(0, .row 80),(1745, .sl 39)]⟩,[0,1745]⟩)],[(8,⟨[1,7],⟨[.sl 135, .own 1745],[(0, .row 80),(1745, .sl 39)]⟩,[8],[],[0,1745],0,[],⟨[],[]⟩,[]⟩),(12,⟨[1,7,9,10],⟨[.sl 135, .own 1745, .str, .own 1848],[(0, .row 80),(1745, .sl 39),(1848, .sl 5)]⟩,[],[],[0,1745],0,[],⟨[],[]⟩,[]⟩),(19,⟨[1,7],⟨[.sl 135, .own 1745],[(0, .row 80),(1745, .sl 39)]⟩,[9,11,12],[],[0,1745],0,[],⟨[],[]⟩,[]⟩)],[],some fu⟩) (exS:=⟨[.sl 39],[(0, .row 80)]⟩) Tryz.f40 (memC (xP fu) (memC (ZN fu) (memC (yQ fu) (memC (uT fu zP hs) (memC (FU fu) zw))))) (by kernel_rfl) (by kernel_rfl) fun x=>by kernel_rfl
theorem kI(fu:Nat):zg Tryz.prog (ZG (zP fu)):=
 zg.iter (I:=I) (P:=Tryz.prog) (f:=40) (inS:=⟨[.optr 0, .sl 135, .bool],[(0, .row 80)]⟩) (cst:=[]) (outS:=⟨[.sl 39],[(0, .row 80)]⟩) (k:=0) (OA fu) (by kernel_rfl) (fun S h=>fT fu S h) fu
theorem eG(fu:Nat):zg Tryz.prog (Wx (Dl fu)):=
 okC (A:=⟨[Wq (Qs fu),Wu parseF,ZG (zP fu)],[],[],0,[],[],[],some fu⟩) (exS:=⟨[.sl 39, .nilp, .int .i64],[]⟩) Tryz.f25 (memC (Oz fu) (memC vD (memC (kI fu) zw))) (by kernel_rfl) (by kernel_rfl) fun x=>by kernel_rfl
theorem RQ(fu:Nat):zg Tryz.prog (BQ (Gl fu)):=
 okC (A:=⟨[Wx (Dl fu)],[],[],0,[],[],[],some fu⟩) (exS:=⟨[.optr 0, .int .i64],[(0, .row 25)]⟩) Tryz.f7 (memC (eG fu) zw) (by kernel_rfl) (by kernel_rfl) fun x=>by kernel_rfl
theorem WH(fu:Nat):zg Tryz.prog (Ez (Im fu)):=
 okC (A:=⟨[Wq (Qs fu),Wu parseF,ZG (zP fu)],[],[],0,[],[],[],some fu⟩) (exS:=⟨[.sl 39, .optr 0, .int .i64],[(0, .row 80)]⟩) Tryz.f25 (memC (Oz fu) (memC vD (memC (kI fu) zw))) (by kernel_rfl) (by kernel_rfl) fun x=>by kernel_rfl
theorem mQ(fu:Nat):zg Tryz.prog (bQ (Nq fu)):=
 okC (A:=⟨[Ez (Im fu)],[],[],0,[],[],[],some fu⟩) (exS:=⟨[.optr 0, .int .i64],[(0, .row 25)]⟩) Tryz.f7 (memC (WH fu) zw) (by kernel_rfl) (by kernel_rfl) fun x=>by kernel_rfl
theorem XH(fu:Nat):zg Tryz.prog (Fz (jh fu)):=
 zg.told (I:=I) (P:=Tryz.prog) (Fn:=fun b:Bool=>cond b (Gl fu) (Nq fu)) true (fun b=>match b with|true=>RQ fu|false=>mQ fu) (fun x y h=>by
  unfold jh at h;exact alt2 (A:=(Gl fu)) (B:=(Nq fu)) h)
theorem IV(fu:Nat):zg Tryz.prog (CK (Qz fu)):=
 okC (A:=⟨[Gz (Xm fu)],[],[],0,[(2,⟨[8],⟨[.int .i64],[]⟩,[0,1,7],[],[],0,[],⟨[],[]⟩,[]⟩)],[],[],some fu⟩) (exS:=⟨[.int .i64],[]⟩) Tryz.f144 (memC (dH fu) zw) (by kernel_rfl) (by kernel_rfl) fun x=>by kernel_rfl
end Go.Lv.VT
end
