/- Contracts. -/
import Derived.Test.YtoiadnecjabbeaaGreatDoorTx
import Derived.Test.YtoiadnecjabbeaaGreatDoorIp
import Derived.Test.YtoiadnecjabbeaaGreatDoorLf
import Derived.Test.YtoiadnecjabbeaaGreatDoorPa
import Derived.Test.YtoiadnecjabbeaaGreatDoorGa
noncomputable section
set_option linter.unusedSimpArgs false
set_option linter.unusedVariables false
namespace Go.Lv.VT
set_option maxRecDepth 100000
open Go.Proofs
theorem alt2 {T U V W:Type} {A B:T->Option U} {t:Option V} {c:V->Bool} {p:V->Option W} {d:W->Bool} {x:T} {y:U}
  (h:(ze t fun v=>bif c v then ze (A x) fun z=>some z else ze (p v) fun w=>bif d w then ze (A x) fun z=>some z else ze (B x) fun z=>some z)=some y): ∃n:Bool,(cond n A B) x=some y:=by
 have key: ∀o:Option U,ze o (fun z=>some z)=some y->o=some y:=fun o=>by cases o<;>exact id
 cases t with
 |none=>cases h
 |some v=>
  replace h:(bif c v then ze (A x) fun z=>some z else ze (p v) fun w=>bif d w then ze (A x) fun z=>some z else ze (B x) fun z=>some z)=some y:=h;cases hc:c v<;>rw[hc]at h
  ·replace h:(ze (p v) fun w=>bif d w then ze (A x) fun z=>some z else ze (B x) fun z=>some z)=some y:=h;cases hp:p v with
   |none=>rw[hp]at h;cases h
   |some w=>
    rw[hp]at h;replace h:(bif d w then ze (A x) fun z=>some z else ze (B x) fun z=>some z)=some y:=h;cases hd:d w<;>rw[hd]at h
    ·exact⟨false,key _ h⟩
    ·exact⟨true,key _ h⟩
  ·exact⟨true,key _ h⟩
def ziJ(F:Str×Int->Option Int):Con I:=⟨70,⟨[.str, .int .u8],[]⟩,[],⟨[.int .i64],[]⟩,0,F⟩
def N9(F:Str->Option Bool):Con I:=⟨111,⟨[.str],[]⟩,[],⟨[.bool],[]⟩,0,F⟩
def zdF(F:List Str->Option Int):Con I:=⟨157,⟨[.sl 9, .clo 111 []],[]⟩,[],⟨[.int .i64],[]⟩,0,F⟩
def zcy(F:List Str->Option Bool):Con I:=⟨110,⟨[.sl 9, .clo 111 []],[]⟩,[],⟨[.bool],[]⟩,0,F⟩
def V4(F:List Str->Option Bool):Con I:=⟨73,⟨[.sl 9],[]⟩,[],⟨[.bool],[]⟩,0,F⟩
def H7(F:List Str->Option Bool):Con I:=⟨72,⟨[.sl 9],[]⟩,[],⟨[.bool],[]⟩,0,F⟩
def zeF(F:List (List Str)->Option Int):Con I:=⟨109,⟨[.sl 47, .clo 72 []],[]⟩,[],⟨[.int .i64],[]⟩,0,F⟩
def zc7(F:List (List Str)->Option Bool):Con I:=⟨71,⟨[.sl 47, .clo 72 []],[]⟩,[],⟨[.bool],[]⟩,0,F⟩
def ND(F:List zq->Option Int):Con I:=⟨74,⟨[.sl 80],[]⟩,[],⟨[.int .i64],[]⟩,0,F⟩
def N7(F:Str×Int->Option Bool):Con I:=⟨225,⟨[.str, .int .i64],[]⟩,[],⟨[.bool],[]⟩,0,F⟩
def S9(F:Str->Option Bool):Con I:=⟨221,⟨[.str],[]⟩,[],⟨[.bool],[]⟩,0,F⟩
def M3(F:Str->Option Str):Con I:=⟨35,⟨[.str],[]⟩,[],⟨[.str],[]⟩,0,F⟩
def O9(F:Str->Option Bool):Con I:=⟨197,⟨[.str],[]⟩,[],⟨[.bool],[]⟩,0,F⟩
def T9(F:zF->Option (Bool×Bool)):Con I:=⟨222,⟨[.val 139],[]⟩,[],⟨[.bool, .bool],[]⟩,0,F⟩
def zjy(F:zf×Int->Option (zf×Bool)):Con I:=⟨223,⟨[.val 197, .int .u8],[]⟩,[],⟨[.val 197, .bool],[]⟩,0,F⟩
def eZ(F:Int->Option Bool):Con I:=⟨235,⟨[.int .i64],[]⟩,[],⟨[.bool],[]⟩,0,F⟩
def OY(F:VAnb->Option Int):Con I:=⟨226,⟨[.val 134],[]⟩,[],⟨[.int .i64],[]⟩,0,F⟩
def zjz(F:zq×zf×zF->Option Bool):Con I:=⟨224,⟨[.val 80, .optr 0, .optr 1],[(0, .row 197),(1, .row 139)]⟩,[0,1],⟨[.bool],[]⟩,0,F⟩
def zc8(F:List zq×zf×zF->Option Int):Con I:=⟨158,⟨[.sl 80, .clo 224 [0,1]],[(0, .row 197),(1, .row 139)]⟩,[0,1],⟨[.int .i64],[]⟩,0,F⟩
def zb8(F:List zq×zf×zF->Option Bool):Con I:=⟨112,⟨[.sl 80, .clo 224 [0,1]],[(0, .row 197),(1, .row 139)]⟩,[0,1],⟨[.bool],[]⟩,0,F⟩
def zlU(F:zF×zf->Option Bool):Con I:=⟨198,⟨[.val 139, .val 197],[]⟩,[],⟨[.bool],[]⟩,0,F⟩
def zjw(F:zO×zf->Option Bool):Con I:=⟨161,⟨[.val 98, .val 197],[]⟩,[],⟨[.bool],[]⟩,0,F⟩
def zkI(F:zO×zf->Option Bool):Con I:=⟨160,⟨[.val 98, .optr 0],[(0, .row 197)]⟩,[0],⟨[.bool],[]⟩,0,F⟩
def zdE(F:List zO×zf->Option Int):Con I:=⟨196,⟨[.sl 98, .clo 160 [0]],[(0, .row 197)]⟩,[0],⟨[.int .i64],[]⟩,0,F⟩
def zcx(F:List zO×zf->Option Bool):Con I:=⟨159,⟨[.sl 98, .clo 160 [0]],[(0, .row 197)]⟩,[0],⟨[.bool],[]⟩,0,F⟩
def ZQ(F:zq×zf×Bool->Option Bool):Con I:=⟨114,⟨[.val 80, .val 197, .bool],[]⟩,[],⟨[.bool],[]⟩,0,F⟩
def zkH(F:zq->Option Bool):Con I:=⟨113,⟨[.val 80],[]⟩,[],⟨[.bool],[]⟩,0,F⟩
def zd9(F:List zq->Option Int):Con I:=⟨158,⟨[.sl 80, .clo 113 []],[]⟩,[],⟨[.int .i64],[]⟩,0,F⟩
def zcT(F:List zq->Option Bool):Con I:=⟨112,⟨[.sl 80, .clo 113 []],[]⟩,[],⟨[.bool],[]⟩,0,F⟩
def TD(F:List zq->Option Int):Con I:=⟨115,⟨[.sl 80],[]⟩,[],⟨[.int .i64],[]⟩,0,F⟩
def U9(F:List zq->Option Int):Con I:=⟨75,⟨[.sl 80],[]⟩,[],⟨[.int .i64],[]⟩,0,F⟩
def Y4(F:zt->Option Bool):Con I:=⟨76,⟨[.val 30],[]⟩,[],⟨[.bool],[]⟩,0,F⟩
def K5(F:Int->Option Int):Con I:=⟨31,⟨[.int .u8],[]⟩,[],⟨[.int .u8],[]⟩,0,F⟩
def DC(F:List za×Int->Option Zq):Con I:=⟨116,⟨[.sl 72, .int .u8],[]⟩,[],⟨[.val 200],[]⟩,0,F⟩
def RZ(F:List za->Option Int):Con I:=⟨91,⟨[.sl 72],[]⟩,[],⟨[.int .i64],[]⟩,0,F⟩
def PZ(F:List za->Option (Int×Int)):Con I:=⟨77,⟨[.sl 72],[]⟩,[],⟨[.int .i64, .int .i64],[]⟩,0,F⟩
def KD(F:List za×List zk->Option (List zk)):Con I:=⟨162,⟨[.own 0, .sl 72],[(0, .sl 70)]⟩,[],⟨[.own 1],[(1, .sl 70)]⟩,1,F⟩
def J5(F:List za->Option (List zk)):Con I:=⟨162,⟨[.nilv, .sl 72],[]⟩,[],⟨[.own 0],[(0, .sl 70)]⟩,1,F⟩
def FY(F:List za->Option (List zk×Int)):Con I:=⟨117,⟨[.sl 72],[]⟩,[],⟨[.sl 70, .int .i64],[]⟩,0,F⟩
def zfG(F:Str×Str->Option Bool):Con I:=⟨99,⟨[.str, .str],[]⟩,[],⟨[.bool],[]⟩,0,F⟩
def ziI(F:Str×Str->Option Bool):Con I:=⟨57,⟨[.str, .str],[]⟩,[],⟨[.bool],[]⟩,0,F⟩
def YZ(F:Str->Option Bool):Con I:=⟨118,⟨[.str],[]⟩,[],⟨[.bool],[]⟩,0,F⟩
def zeZ(F:Str×Str->Option Str):Con I:=⟨236,⟨[.str, .str],[]⟩,[],⟨[.str],[]⟩,0,F⟩
def zhZ(F:Str×Str->Option Str):Con I:=⟨227,⟨[.str, .str],[]⟩,[],⟨[.str],[]⟩,0,F⟩
def VZ(F:Int->Option Bool):Con I:=⟨228,⟨[.int .u8],[]⟩,[],⟨[.bool],[]⟩,0,F⟩
def Y7(F:Str->Option Bool):Con I:=⟨199,⟨[.str],[]⟩,[],⟨[.bool],[]⟩,0,F⟩
def R3(F:Int->Option Bool):Con I:=⟨229,⟨[.int .u8],[]⟩,[],⟨[.bool],[]⟩,0,F⟩
def UZ(F:Int->Option Bool):Con I:=⟨200,⟨[.int .u8],[]⟩,[],⟨[.bool],[]⟩,0,F⟩
def zjA(F:Str×Str->Option Bool):Con I:=⟨201,⟨[.str, .str],[]⟩,[],⟨[.bool],[]⟩,0,F⟩
def HY(F:zk->Option Bool):Con I:=⟨163,⟨[.val 70],[]⟩,[],⟨[.bool],[]⟩,0,F⟩
def X7(F:(Int×Int)×List zk->Option Bool):Con I:=⟨202,⟨[.int .i64, .int .u8, .optr 0],[(0, .row 60)]⟩,[0],⟨[.bool],[]⟩,0,F⟩
def O3(F:Str×Str->Option Bool):Con I:=⟨106,⟨[.str, .str],[]⟩,[],⟨[.bool],[]⟩,0,F⟩
def TZ(F:List zk->Option Int):Con I:=⟨164,⟨[.sl 70],[]⟩,[],⟨[.int .i64],[]⟩,0,F⟩
def WZ(F:List zk->Option Int):Con I:=⟨119,⟨[.sl 70],[]⟩,[],⟨[.int .i64],[]⟩,0,F⟩
def IW(F:za×Int->Option Bool):Con I:=⟨123,⟨[.val 72, .int .u8],[]⟩,[],⟨[.bool],[]⟩,0,F⟩
def zlT(F:za->Option Bool):Con I:=⟨165,⟨[.val 72],[]⟩,[],⟨[.bool],[]⟩,0,F⟩
def zeY(F:List za->Option Int):Con I:=⟨46,⟨[.sl 72, .clo 165 []],[]⟩,[],⟨[.int .i64],[]⟩,0,F⟩
def zdD(F:List za->Option Bool):Con I:=⟨121,⟨[.sl 72, .clo 165 []],[]⟩,[],⟨[.bool],[]⟩,0,F⟩
def QM(F:List za->Option Bool):Con I:=⟨120,⟨[.sl 72],[]⟩,[],⟨[.bool],[]⟩,0,F⟩
def JY(F:za->Option Bool):Con I:=⟨124,⟨[.val 72],[]⟩,[],⟨[.bool],[]⟩,0,F⟩
def l7(F:za->Option Bool):Con I:=⟨122,⟨[.val 72],[]⟩,[],⟨[.bool],[]⟩,0,F⟩
def zea(F:List za->Option Int):Con I:=⟨46,⟨[.sl 72, .clo 122 []],[]⟩,[],⟨[.int .i64],[]⟩,0,F⟩
def zcU(F:List za->Option Bool):Con I:=⟨121,⟨[.sl 72, .clo 122 []],[]⟩,[],⟨[.bool],[]⟩,0,F⟩
def aZ(F:Zh->Option Int):Con I:=⟨78,⟨[.val 27],[]⟩,[],⟨[.int .i64],[]⟩,0,F⟩
def JD(F:zt->Option Int):Con I:=⟨79,⟨[.val 30],[]⟩,[],⟨[.int .i64],[]⟩,0,F⟩
def LY(F:zt->Option Bool):Con I:=⟨128,⟨[.val 30],[]⟩,[],⟨[.bool],[]⟩,0,F⟩
def zgT(F:List Str×Str->Option Int):Con I:=⟨209,⟨[.sl 9, .str],[]⟩,[],⟨[.int .i64],[]⟩,0,F⟩
def zeX(F:List Str×Str->Option Bool):Con I:=⟨174,⟨[.sl 9, .str],[]⟩,[],⟨[.bool],[]⟩,0,F⟩
def X3(F:Str->Option Bool):Con I:=⟨137,⟨[.str],[]⟩,[],⟨[.bool],[]⟩,0,F⟩
def U3(F:List Int->Option Int):Con I:=⟨210,⟨[.sl 2],[]⟩,[],⟨[.int .i64],[]⟩,0,F⟩
def V3(F:Int->Option Int):Con I:=⟨175,⟨[.int .i64],[]⟩,[],⟨[.int .i64],[]⟩,0,F⟩
def bZ(F:zt->Option Bool):Con I:=⟨167,⟨[.val 30],[]⟩,[],⟨[.bool],[]⟩,0,F⟩
def cZ(F:zt->Option Bool):Con I:=⟨168,⟨[.val 30],[]⟩,[],⟨[.bool],[]⟩,0,F⟩
def NY(F:zt->Option Bool):Con I:=⟨127,⟨[.val 30],[]⟩,[],⟨[.bool],[]⟩,0,F⟩
def ziC(F:zt->Option Bool):Con I:=⟨126,⟨[.val 30],[]⟩,[],⟨[.bool],[]⟩,0,F⟩
def zfE(F:List zt->Option Int):Con I:=⟨166,⟨[.sl 30, .clo 126 []],[]⟩,[],⟨[.int .i64],[]⟩,0,F⟩
def zd8(F:List zt->Option Bool):Con I:=⟨125,⟨[.sl 30, .clo 126 []],[]⟩,[],⟨[.bool],[]⟩,0,F⟩
def zkF(F:zt->Option Int):Con I:=⟨80,⟨[.val 30],[]⟩,[],⟨[.int .i64],[]⟩,0,F⟩
def iC(F:zt->Option Int):Con I:=⟨81,⟨[.val 30],[]⟩,[],⟨[.int .i64],[]⟩,0,F⟩
def KY(F:zt->Option Bool):Con I:=⟨169,⟨[.val 30],[]⟩,[],⟨[.bool],[]⟩,0,F⟩
def vB(F:zt×Int->Option ((Int×Bool)×Int)):Con I:=⟨129,⟨[.val 30, .optr 0],[(0, .row 3)]⟩,[],⟨[.int .i64, .bool],[(0, .row 3)]⟩,0,F⟩
def zhW(F:zt->Option Int):Con I:=⟨82,⟨[.val 30],[]⟩,[],⟨[.int .i64],[]⟩,0,F⟩
def jC(F:List z8->Option zZ):Con I:=⟨45,⟨[.sl 34],[]⟩,[],⟨[.val 124],[]⟩,0,F⟩
def D5(F:List z8->Option Int):Con I:=⟨33,⟨[.sl 34],[]⟩,[],⟨[.int .i64],[]⟩,0,F⟩
def E5(F:zbr->Option Int):Con I:=⟨21,⟨[.val 39],[]⟩,[],⟨[.int .i64],[]⟩,0,F⟩
def ze0(F:zb->Option zb):Con I:=⟨43,⟨[.optr 0],[(0, .row 121)]⟩,[],⟨[],[(0, .row 121)]⟩,0,F⟩
def zh2(F:Int×zb->Option Int):Con I:=⟨59,⟨[.optr 0, .int .i64],[(0, .row 121)]⟩,[0],⟨[.int .i64],[]⟩,0,F⟩
def J4(F:Int->Option Bool):Con I:=⟨60,⟨[.int .i64],[]⟩,[],⟨[.bool],[]⟩,0,F⟩
def zgV(F:zb->Option zb):Con I:=⟨61,⟨[.optr 0, .clo 60 []],[(0, .row 121)]⟩,[],⟨[],[(0, .row 121)]⟩,0,F⟩
def zdH(F:Int->Option (List UInt8)):Con I:=⟨187,⟨[.nilv, .int .i32],[]⟩,[],⟨[.own 0],[(0, .sl 5)]⟩,1,F⟩
def ziN(F:Int->Option (List UInt8)):Con I:=⟨149,⟨[.nilv, .int .i32],[]⟩,[],⟨[.own 0],[(0, .sl 5)]⟩,1,F⟩
def K8(F:Int×Int×Int->Option Bool):Con I:=⟨151,⟨[.int .i64, .int .i64, .int .i64],[]⟩,[],⟨[.bool],[]⟩,0,F⟩
def M4(F:Int->Option Bool):Con I:=⟨103,⟨[.int .i64],[]⟩,[],⟨[.bool],[]⟩,0,F⟩
def CY(F:Int->Option Int):Con I:=⟨150,⟨[.int .i64],[]⟩,[],⟨[.int .i64],[]⟩,0,F⟩
def zeG(F:zb->Option (zb×List UInt8)):Con I:=⟨101,⟨[.optr 0, .nilv],[(0, .row 121)]⟩,[],⟨[.own 1],[(0, .row 121),(1, .sl 5)]⟩,1,F⟩
def zdI(F:Int×List UInt8->Option (List UInt8)):Con I:=⟨187,⟨[.own 0, .int .i32],[(0, .sl 5)]⟩,[],⟨[.own 1],[(1, .sl 5)]⟩,1,F⟩
def ziO(F:Int×List UInt8->Option (List UInt8)):Con I:=⟨149,⟨[.own 0, .int .i32],[(0, .sl 5)]⟩,[],⟨[.own 1],[(1, .sl 5)]⟩,1,F⟩
def zeH(F:zb×List UInt8->Option (zb×List UInt8)):Con I:=⟨101,⟨[.optr 0, .own 1],[(0, .row 121),(1, .sl 5)]⟩,[],⟨[.own 2],[(0, .row 121),(2, .sl 5)]⟩,1,F⟩
def zgA(F:zb->Option (zk×zb)):Con I:=⟨62,⟨[.optr 0],[(0, .row 121)]⟩,[],⟨[.val 70],[(0, .row 121)]⟩,0,F⟩
def K4(F:Int->Option Bool):Con I:=⟨102,⟨[.int .i64],[]⟩,[],⟨[.bool],[]⟩,0,F⟩
def D7(F:Int->Option Bool):Con I:=⟨63,⟨[.int .i64],[]⟩,[],⟨[.bool],[]⟩,0,F⟩
def zgy(F:Int×zb->Option Bool):Con I:=⟨64,⟨[.optr 0, .int .i64],[(0, .row 121)]⟩,[0],⟨[.bool],[]⟩,0,F⟩
def zh0(F:Int×zb->Option Bool):Con I:=⟨65,⟨[.optr 0, .int .i64],[(0, .row 121)]⟩,[0],⟨[.bool],[]⟩,0,F⟩
def zh3(F:zb->Option (Str×zb)):Con I:=⟨66,⟨[.optr 0],[(0, .row 121)]⟩,[],⟨[.str],[(0, .row 121)]⟩,0,F⟩
def zgz(F:zb->Option Bool):Con I:=⟨67,⟨[.optr 0],[(0, .row 121)]⟩,[0],⟨[.bool],[]⟩,0,F⟩
def zfJ(F:zb->Option zb):Con I:=⟨61,⟨[.optr 0, .clo 103 []],[(0, .row 121)]⟩,[],⟨[],[(0, .row 121)]⟩,0,F⟩
def zfH(F:zb->Option (Bool×zb)):Con I:=⟨104,⟨[.optr 0],[(0, .row 121)]⟩,[],⟨[.bool],[(0, .row 121)]⟩,0,F⟩
def ziM(F:Str->Option Int):Con I:=⟨105,⟨[.str],[]⟩,[],⟨[.int .i64],[]⟩,0,F⟩
def zfI(F:zb->Option (zk×zb)):Con I:=⟨68,⟨[.optr 0],[(0, .row 121)]⟩,[],⟨[.val 70],[(0, .row 121)]⟩,0,F⟩
def ziK(F:zb->Option (zk×zb)):Con I:=⟨155,⟨[.optr 0],[(0, .row 121)]⟩,[],⟨[.val 70],[(0, .row 121)]⟩,0,F⟩
def ziL(F:zb->Option (zk×zb)):Con I:=⟨107,⟨[.optr 0],[(0, .row 121)]⟩,[],⟨[.val 70],[(0, .row 121)]⟩,0,F⟩
def zgU(F:zb->Option (zk×zb)):Con I:=⟨69,⟨[.optr 0],[(0, .row 121)]⟩,[],⟨[.val 70],[(0, .row 121)]⟩,0,F⟩
def zh1(F:zb->Option (zk×zb)):Con I:=⟨44,⟨[.optr 0],[(0, .row 121)]⟩,[],⟨[.val 70],[(0, .row 121)]⟩,0,F⟩
def zjB(F:(zk×Int×Int)×List zk->Option (List zk)):Con I:=⟨28,⟨[.val 70, .int .i64, .int .i64, .optr 0],[(0, .cells 60 [.own 1]),(1, .sl 70)]⟩,[],⟨[],[(0, .cells 60 [.own 2]),(2, .sl 70)]⟩,1,F⟩
def A7(F:Str->Option (Int×List zk)):Con I:=⟨27,⟨[.str, .clo 28 [0]],[(0, .cells 60 [.nilv])]⟩,[],⟨[.int .i64],[(0, .cells 60 [.own 1]),(1, .sl 70)]⟩,1,F⟩
def F7(F:Str->Option (List zk×Int)):Con I:=⟨17,⟨[.str],[]⟩,[],⟨[.sl 70, .int .i64],[]⟩,0,F⟩
def IZ(F:List za->Option Int):Con I:=⟨34,⟨[.sl 72],[]⟩,[],⟨[.int .u8],[]⟩,0,F⟩
def zhY(F:Int×List UInt8->Option Int):Con I:=⟨83,⟨[.own 0, .int .u8],[(0, .sl 5)]⟩,[0],⟨[.int .i64],[]⟩,0,F⟩
def zfD(F:Int×List UInt8->Option Bool):Con I:=⟨48,⟨[.own 0, .int .u8],[(0, .sl 5)]⟩,[0],⟨[.bool],[]⟩,0,F⟩
def L9(F:za×List UInt8->Option Bool):Con I:=⟨47,⟨[.val 72, .optr 0],[(0, .cells 74 [.own 1]),(1, .sl 5)]⟩,[0,1],⟨[.bool],[]⟩,0,F⟩
def zeb(F:List za×List UInt8->Option Int):Con I:=⟨46,⟨[.sl 72, .clo 47 [0]],[(0, .cells 74 [.own 1]),(1, .sl 5)]⟩,[0,1],⟨[.int .i64],[]⟩,0,F⟩
def R4(F:List za×List UInt8->Option (List za×List za)):Con I:=⟨36,⟨[.sl 72, .own 0],[(0, .sl 5)]⟩,[0],⟨[.sl 72, .sl 72],[]⟩,0,F⟩
def zgR(F:Int×zm->Option zk):Con I:=⟨205,⟨[.optr 0, .int .i64],[(0, .row 281)]⟩,[0],⟨[.val 70],[]⟩,0,F⟩
def zfC(F:zm->Option (Bool×zm)):Con I:=⟨203,⟨[.optr 0],[(0, .row 281)]⟩,[],⟨[.bool],[(0, .row 281)]⟩,0,F⟩
def zgN(F:Str×zm->Option (Bool×zm)):Con I:=⟨206,⟨[.optr 0, .str],[(0, .row 281)]⟩,[],⟨[.bool],[(0, .row 281)]⟩,0,F⟩
def zgO(F:zm->Option (Int×zm)):Con I:=⟨204,⟨[.optr 0],[(0, .row 281)]⟩,[],⟨[.int .u8],[(0, .row 281)]⟩,0,F⟩
def zgQ(F:Int×zm->Option (List za)):Con I:=⟨231,⟨[.optr 0, .int .i64],[(0, .row 281)]⟩,[0],⟨[.sl 72],[]⟩,0,F⟩
def zgP(F:zm->Option Bool):Con I:=⟨208,⟨[.optr 0],[(0, .row 281)]⟩,[0],⟨[.bool],[]⟩,0,F⟩
def P7(F:List za->Option (zF×Bool)):Con I:=⟨230,⟨[.sl 72],[]⟩,[],⟨[.val 139, .bool],[]⟩,0,F⟩
def R9(F:Unit->Option (List Str)):Con I:=⟨237,⟨[],[]⟩,[],⟨[.sl 9],[]⟩,0,F⟩
def O7(F:Str->Option (zF×Bool)):Con I:=⟨232,⟨[.str],[]⟩,[],⟨[.val 139, .bool],[]⟩,0,F⟩
def P9(F:za->Option Bool):Con I:=⟨239,⟨[.val 72],[]⟩,[],⟨[.bool],[]⟩,0,F⟩
def zec(F:List za->Option Int):Con I:=⟨46,⟨[.sl 72, .clo 239 []],[]⟩,[],⟨[.int .i64],[]⟩,0,F⟩
def ziB(F:zM->Option zM):Con I:=⟨241,⟨[.optr 0],[(0, .row 316)]⟩,[],⟨[],[(0, .row 316)]⟩,0,F⟩
def zkE(F:Int×zM->Option ((zk×Bool)×zM)):Con I:=⟨244,⟨[.optr 0, .int .u8],[(0, .row 316)]⟩,[],⟨[.val 70, .bool],[(0, .row 316)]⟩,0,F⟩
def zjr(F:zM->Option ((Int×Bool)×zM)):Con I:=⟨243,⟨[.optr 0],[(0, .row 316)]⟩,[],⟨[.int .i64, .bool],[(0, .row 316)]⟩,0,F⟩
def zfF(F:Str×Str->Option (Str×Bool)):Con I:=⟨248,⟨[.str, .str],[]⟩,[],⟨[.str, .bool],[]⟩,0,F⟩
def ziH(F:Str×Str->Option (Str×Bool)):Con I:=⟨245,⟨[.str, .str],[]⟩,[],⟨[.str, .bool],[]⟩,0,F⟩
def zkD(F:zM->Option (Int×zM)):Con I:=⟨247,⟨[.optr 0],[(0, .row 316)]⟩,[],⟨[.int .i64],[(0, .row 316)]⟩,0,F⟩
def ziA(F:Str×zM->Option ((Int×Bool)×zM)):Con I:=⟨246,⟨[.optr 0, .str],[(0, .row 316)]⟩,[],⟨[.int .i64, .bool],[(0, .row 316)]⟩,0,F⟩
def zkC(F:zM->Option ((VAnb×Bool)×zM)):Con I:=⟨242,⟨[.optr 0],[(0, .row 316)]⟩,[],⟨[.val 134, .bool],[(0, .row 316)]⟩,0,F⟩
def zBY(F:List zk->Option (VAnb×Int)):Con I:=⟨240,⟨[.sl 70],[]⟩,[],⟨[.val 134, .int .i64],[]⟩,0,F⟩
def G5(F:zF×List za×zf->Option (zF×Bool)):Con I:=⟨238,⟨[.val 139, .sl 72, .val 197],[]⟩,[],⟨[.val 139, .bool],[]⟩,0,F⟩
def zjx(F:Str×List za×zf->Option (zF×Bool)):Con I:=⟨233,⟨[.str, .sl 72, .val 197],[]⟩,[],⟨[.val 139, .bool],[]⟩,0,F⟩
def zeW(F:zf×zm->Option ((List zF×Bool)×zm)):Con I:=⟨207,⟨[.optr 0, .val 197],[(0, .row 281)]⟩,[],⟨[.sl 139, .bool],[(0, .row 281)]⟩,0,F⟩
def ziF(F:List za×zf×Bool->Option (zq×Bool)):Con I:=⟨170,⟨[.sl 72, .val 197, .bool],[]⟩,[],⟨[.val 80, .bool],[]⟩,0,F⟩
def qV(F:List za×zf×Bool×Bool->Option (List zq×Bool)):Con I:=⟨130,⟨[.sl 72, .val 197, .bool, .bool],[]⟩,[],⟨[.sl 80, .bool],[]⟩,0,F⟩
def LZ(F:List za->Option (List zq×Int)):Con I:=⟨84,⟨[.sl 72],[]⟩,[],⟨[.sl 80, .int .i64],[]⟩,0,F⟩
def KR(F:List za->Option (List za)):Con I:=⟨173,⟨[.sl 72],[]⟩,[],⟨[.own 0],[(0, .sl 72)]⟩,1,F⟩
def BC(F:List za->Option (List za)):Con I:=⟨132,⟨[.sl 72],[]⟩,[],⟨[.sl 72],[]⟩,0,F⟩
def OZ(F:List za×Int->Option (List (List za)×Int)):Con I:=⟨86,⟨[.sl 72, .int .u8],[]⟩,[],⟨[.sl 25, .int .i64],[]⟩,0,F⟩
def IY(F:List za->Option (List za)):Con I:=⟨172,⟨[.sl 72],[]⟩,[],⟨[.sl 72],[]⟩,0,F⟩
def XZ(F:List za->Option (List za)):Con I:=⟨171,⟨[.sl 72],[]⟩,[],⟨[.sl 72],[]⟩,0,F⟩
def M5(F:Int×List za->Option Bool):Con I:=⟨133,⟨[.int .i64, .optr 0],[(0, .row 25)]⟩,[0],⟨[.bool],[]⟩,0,F⟩
def EY(F:List za->Option (List za×Int)):Con I:=⟨87,⟨[.sl 72],[]⟩,[],⟨[.sl 72, .int .i64],[]⟩,0,F⟩
def pW(F:List za->Option (Zh×Bool)):Con I:=⟨131,⟨[.sl 72],[]⟩,[],⟨[.val 27, .bool],[]⟩,0,F⟩
def JW(F:List za->Option (List Zh×Int)):Con I:=⟨85,⟨[.sl 72],[]⟩,[],⟨[.sl 27, .int .i64],[]⟩,0,F⟩
def U4(F:List za×List za->Option (z8×Bool)):Con I:=⟨49,⟨[.sl 72, .sl 72],[]⟩,[],⟨[.val 34, .bool],[]⟩,0,F⟩
def zdG(F:List Str->Option Int):Con I:=⟨157,⟨[.own 0, .clo 111 []],[(0, .sl 9)]⟩,[0],⟨[.int .i64],[]⟩,0,F⟩
def zcz(F:List Str->Option Bool):Con I:=⟨110,⟨[.own 0, .clo 111 []],[(0, .sl 9)]⟩,[0],⟨[.bool],[]⟩,0,F⟩
def M9(F:List Str->Option Bool):Con I:=⟨73,⟨[.own 0],[(0, .sl 9)]⟩,[0],⟨[.bool],[]⟩,0,F⟩
def HZ(F:List za->Option (List Str×Bool)):Con I:=⟨88,⟨[.sl 72],[]⟩,[],⟨[.sl 9, .bool],[]⟩,0,F⟩
def X4(F:List za×Bool->Option (z8×Bool)):Con I:=⟨50,⟨[.sl 72, .bool],[]⟩,[],⟨[.val 34, .bool],[]⟩,0,F⟩
def zjs(F:zh->Option Int):Con I:=⟨134,⟨[.optr 0],[(0, .row 171)]⟩,[0],⟨[.int .u8],[]⟩,0,F⟩
def zjt(F:zh->Option (za×zh)):Con I:=⟨135,⟨[.optr 0],[(0, .row 171)]⟩,[],⟨[.val 72],[(0, .row 171)]⟩,0,F⟩
def zhX(F:zh->Option (Bool×zh)):Con I:=⟨89,⟨[.optr 0],[(0, .row 171)]⟩,[],⟨[.bool],[(0, .row 171)]⟩,0,F⟩
def zjv(F:List Str×zh->Option (Str×zh)):Con I:=⟨136,⟨[.optr 0, .sl 9],[(0, .row 171)]⟩,[],⟨[.str],[(0, .row 171)]⟩,0,F⟩
def zgM(F:zh->Option ((zt×Bool)×zh)):Con I:=⟨138,⟨[.optr 0],[(0, .row 171)]⟩,[],⟨[.val 30, .bool],[(0, .row 171)]⟩,0,F⟩
def ziD(F:zh->Option ((zt×Bool)×zh)):Con I:=⟨90,⟨[.optr 0],[(0, .row 171)]⟩,[],⟨[.val 30, .bool],[(0, .row 171)]⟩,0,F⟩
def dZ(F:List za->Option (zt×Int)):Con I:=⟨51,⟨[.sl 72],[]⟩,[],⟨[.val 30, .int .i64],[]⟩,0,F⟩
def rW(F:List za->Option (Zh×Bool×Int)):Con I:=⟨176,⟨[.sl 72],[]⟩,[],⟨[.val 27, .bool, .int .i64],[]⟩,0,F⟩
def zju(F:zh->Option ((zt×Bool)×zh)):Con I:=⟨139,⟨[.optr 0],[(0, .row 171)]⟩,[],⟨[.val 30, .bool],[(0, .row 171)]⟩,0,F⟩
def QF(F:zh->Option ((zt×Bool)×zh)):Con I:=⟨92,⟨[.optr 0],[(0, .row 171)]⟩,[],⟨[.val 30, .bool],[(0, .row 171)]⟩,0,F⟩
def V9(F:List za->Option (zt×Int)):Con I:=⟨52,⟨[.sl 72],[]⟩,[],⟨[.val 30, .int .i64],[]⟩,0,F⟩
def zgS(F:(Bool×Str×List za)×zx->Option ((z8×Bool)×zx)):Con I:=⟨37,⟨[.optr 0, .bool, .str, .sl 72, .nilp],[(0, .row 52)]⟩,[],⟨[.val 34, .bool],[(0, .row 52)]⟩,0,F⟩
def ziG(F:(Bool×Str×List za×za)×zx->Option ((z8×Bool)×zx)):Con I:=⟨37,⟨[.optr 0, .bool, .str, .sl 72, .ptr 72],[(0, .row 52)]⟩,[],⟨[.val 34, .bool],[(0, .row 52)]⟩,0,F⟩
def Qe(F:(List za×Bool)×zx->Option (List z8×zx)):Con I:=⟨22,⟨[.optr 0, .sl 72, .bool],[(0, .row 52)]⟩,[],⟨[.sl 34],[(0, .row 52)]⟩,0,F⟩
def GZ(F:Str->Option (List z8×Int)):Con I:=⟨10,⟨[.str],[]⟩,[],⟨[.sl 34, .nilp, .int .i64],[]⟩,0,F⟩
def KZ(F:Str->Option (zbr×Int)):Con I:=⟨6,⟨[.str],[]⟩,[],⟨[.val 39, .int .i64],[]⟩,0,F⟩
def G7(F:Str->Option ((List z8×Int)×zx)):Con I:=⟨10,⟨[.str],[]⟩,[],⟨[.sl 34, .optr 0, .int .i64],[(0, .row 52)]⟩,1,F⟩
def M7(F:Str->Option (zbr×Int)):Con I:=⟨6,⟨[.str],[]⟩,[],⟨[.val 39, .int .i64],[]⟩,0,F⟩
def K7(F:Str->Option (zbr×Int)):Con I:=⟨6,⟨[.str],[]⟩,[],⟨[.val 39, .int .i64],[]⟩,0,F⟩
def J3(F:Str×List UInt8->Option Bool):Con I:=⟨9,⟨[.str, .sl 5],[]⟩,[],⟨[.bool],[]⟩,0,F⟩
def K3(F:Unit->Option Bool):Con I:=⟨4,⟨[],[]⟩,[],⟨[.bool],[]⟩,0,F⟩
def JZ(F:Str->Option (z8×Int)):Con I:=⟨5,⟨[.str],[]⟩,[],⟨[.val 34, .int .i64],[]⟩,0,F⟩
def J7(F:Str->Option (z8×Int)):Con I:=⟨5,⟨[.str],[]⟩,[],⟨[.val 34, .int .i64],[]⟩,0,F⟩
def I7(F:Str->Option (z8×Int)):Con I:=⟨5,⟨[.str],[]⟩,[],⟨[.val 34, .int .i64],[]⟩,0,F⟩
def R7(F:zF->Option Qp):Con I:=⟨53,⟨[.val 139],[]⟩,[],⟨[.val 136],[]⟩,0,F⟩
def ziE(F:List zF×List zF->Option Bool):Con I:=⟨38,⟨[.sl 139, .sl 139],[]⟩,[],⟨[.bool],[]⟩,0,F⟩
def H5(F:zq×zq->Option Bool):Con I:=⟨23,⟨[.val 80, .val 80],[]⟩,[],⟨[.bool],[]⟩,0,F⟩
def yt(F:List zq×List zq->Option Bool):Con I:=⟨11,⟨[.sl 80, .sl 80],[]⟩,[],⟨[.bool],[]⟩,0,F⟩
def lC(F:List za×List za->Option Bool):Con I:=⟨39,⟨[.sl 72, .sl 72],[]⟩,[],⟨[.bool],[]⟩,0,F⟩
def I5(F:Zh×Zh->Option Bool):Con I:=⟨24,⟨[.val 27, .val 27],[]⟩,[],⟨[.bool],[]⟩,0,F⟩
def NZ(F:List Zh×List Zh->Option Bool):Con I:=⟨12,⟨[.sl 27, .sl 27],[]⟩,[],⟨[.bool],[]⟩,0,F⟩
def kC(F:zt×zt->Option Bool):Con I:=⟨13,⟨[.val 30, .val 30],[]⟩,[],⟨[.bool],[]⟩,0,F⟩
def zkG(F:List (List Str)×List (List Str)->Option Bool):Con I:=⟨14,⟨[.sl 47, .sl 47],[]⟩,[],⟨[.bool],[]⟩,0,F⟩
def MZ(F:List z8×List z8->Option Bool):Con I:=⟨15,⟨[.sl 34, .sl 34],[]⟩,[],⟨[.bool],[]⟩,0,F⟩
def ax(F:z8×z8->Option Bool):Con I:=⟨7,⟨[.val 34, .val 34],[]⟩,[],⟨[.bool],[]⟩,0,F⟩
def zkJ(F:(zk×Int×Int)×List Zu->Option (List Zu)):Con I:=⟨29,⟨[.val 70, .int .i64, .int .i64, .optr 0],[(0, .cells 63 [.own 1]),(1, .sl 68)]⟩,[],⟨[],[(0, .cells 63 [.own 2]),(2, .sl 68)]⟩,1,F⟩
def u6(F:Str->Option (Int×List Zu)):Con I:=⟨27,⟨[.str, .clo 29 [0]],[(0, .cells 63 [.nilv])]⟩,[],⟨[.int .i64],[(0, .cells 63 [.own 1]),(1, .sl 68)]⟩,1,F⟩
def O4(F:Str->Option (List Zu×Int)):Con I:=⟨18,⟨[.str],[]⟩,[],⟨[.sl 68, .int .i64],[]⟩,0,F⟩
def U7(F:Int->Option Int):Con I:=⟨32,⟨[.int .u8],[]⟩,[],⟨[.int .u8],[]⟩,0,F⟩
def GD(F:List za->Option (List zk)):Con I:=⟨20,⟨[.sl 72],[]⟩,[],⟨[.sl 70],[]⟩,0,F⟩
def V7(F:Str->Option (Int×Bool)):Con I:=⟨8,⟨[.str],[]⟩,[],⟨[.int .i64, .bool],[]⟩,0,F⟩
def rQ(F:Str->Option Bool):Con I:=⟨3,⟨[.str],[]⟩,[],⟨[.bool],[]⟩,0,F⟩
def zBZ(F:Str->Option (Str×Int)):Con I:=⟨16,⟨[.str],[]⟩,[],⟨[.str, .int .i64],[]⟩,0,F⟩
theorem FH:zw Tryz.prog (zBZ ni):=xU
def FW(F:Str×Int->Option Int):Con I:=⟨108,⟨[.str, .int .u8],[]⟩,[],⟨[.int .i64],[]⟩,0,F⟩
theorem JX:zw Tryz.prog (FW Pz):=aW
def zB0(F:Str×Str->Option Int):Con I:=⟨58,⟨[.str, .str],[]⟩,[],⟨[.int .i64],[]⟩,0,F⟩
theorem xA:zw Tryz.prog (zB0 ik):=aV
def zB2(F:Str×Str->Option Str):Con I:=⟨152,⟨[.str, .str],[]⟩,[],⟨[.str],[]⟩,0,F⟩
theorem zAt:zw Tryz.prog (zB2 Am):=XV
def GY(F:Str×Str->Option Int):Con I:=⟨153,⟨[.str, .str],[]⟩,[],⟨[.int .i64],[]⟩,0,F⟩
theorem mY:zw Tryz.prog (GY Um):=bY
def zGB(F:Str×Str->Option (Str×Str×Bool)):Con I:=⟨154,⟨[.str, .str],[]⟩,[],⟨[.str, .str, .bool],[]⟩,0,F⟩
theorem zFH:zw Tryz.prog (zGB cutF):=zE2
def zB1(F:List zk->Option (List za×Int)):Con I:=⟨19,⟨[.sl 70],[]⟩,[],⟨[.sl 72, .int .i64],[]⟩,0,F⟩
theorem EH:zw Tryz.prog (zB1 parseF):=YV
def zEv(F:Str×Str->Option Str):Con I:=⟨249,⟨[.str, .str],[]⟩,[],⟨[.str],[]⟩,0,F⟩
theorem zC6:zw Tryz.prog (zEv trimF):=zCD
def EW(F:Str×Int×Int->Option (Int×Bool)):Con I:=⟨250,⟨[.str, .int .i64, .int .i64],[]⟩,[],⟨[.int .i64, .ifb],[]⟩,0,F⟩
theorem IX:zw Tryz.prog (EW bv):=YW
theorem okC{con:Con I}{S:List (Con I)}(f:Go.Func)(hS: ∀c∈S,zw Tryz.prog c)(fz:List (Nat×List Nat):=[])(pre:List (Nat×List (Nat×Option Nat)):=[])(p:Nat:=0)(cuts:List (Nat×Cut):=[])(joins:List (Nat×Cut):=[])(cls:List (Nat×List Nat):=[])(fl:Option Nat:=none)(exS:StSh:=con.outS)(hf:Tryz.prog.funcs[con.f]? =some f:=by kernel_rfl)(h:chk con (⟨S,fz,pre,p,cuts,joins,cls,fl⟩:Env0 I) f=true:=by kernel_rfl)(he: ∀x,evF2 (⟨S,fz,pre,p,cuts,joins,cls,fl⟩:Env0 I) T FK f.ntmps (rsl f) (body f) con exS x=con.F x:=by intro x;kernel_rfl):zw Tryz.prog con:=
 okC0 mixed ipOK tok rfl rfl hS hf h he
variable [Fu]
theorem recC(c:Con I)(B:((c.inS.sl I).T->Option (c.outS.sl I).T)->(c.inS.sl I).T->Option (c.outS.sl I).T)(hB: ∀S,zw Tryz.prog (⟨c.f,c.inS,c.cst,c.outS,c.k,S⟩:Con I)->zw Tryz.prog (⟨c.f,c.inS,c.cst,c.outS,c.k,B S⟩:Con I))(hwf:Cj (⟨c.f,c.inS,c.cst,c.outS,c.k,fun _=>Option.none⟩:Con I)=true:=by kernel_rfl):zw Tryz.prog (⟨c.f,c.inS,c.cst,c.outS,c.k,Lv.recE B⟩:Con I):=zw.recE B hwf hB
theorem qE:zw Tryz.prog (ziJ strings_IndexByte):=
 okC Tryz.f70 (memC JX zH) (fl:=Fu.n)
theorem iQ:zw Tryz.prog (N9 Vx):=
 okC Tryz.f111 (memC qE zH) (fl:=Fu.n)
theorem zdj:zw Tryz.prog (zdF MR):=
 okC Tryz.f157 (memC iQ zH) (cuts:=[(2,⟨[8],⟨[.int .i64],[]⟩,[0,1,7],[],[],0,[],⟨[],[]⟩,[]⟩)]) (fl:=Fu.n)
theorem zcj:zw Tryz.prog (zcy XR):=
 okC Tryz.f110 (memC zdj zH) (fl:=Fu.n)
theorem F6:zw Tryz.prog (V4 MP):=
 okC Tryz.f73 (memC zcj zH) (fl:=Fu.n)
theorem P8:zw Tryz.prog (H7 nP):=
 okC Tryz.f72 (memC F6 zH) (fl:=Fu.n)
theorem zef:zw Tryz.prog (zeF NR):=
 okC Tryz.f109 (memC P8 zH) (cuts:=[(2,⟨[8],⟨[.int .i64],[]⟩,[0,1,7],[],[],0,[],⟨[],[]⟩,[]⟩)]) (fl:=Fu.n)
theorem zcV:zw Tryz.prog (zc7 VR):=
 okC Tryz.f71 (memC zef zH) (fl:=Fu.n)
theorem l9(Qk:List zq->Option Int)(hs:zw Tryz.prog (ND Qk)):zw Tryz.prog (ND (fI Qk)):=
 okC Tryz.f74 (memC hs zH) (cuts:=[(3,⟨[3,14],⟨[.int .i64, .int .i64],[]⟩,[2,12,13],[],[],0,[3],⟨[.int .i64],[]⟩,[]⟩),(6,⟨[3,21],⟨[.int .i64, .int .i64],[]⟩,[14,19,20],[],[],2,[3],⟨[.int .i64],[]⟩,[]⟩),(9,⟨[3,28],⟨[.int .i64, .int .i64],[]⟩,[21,26,27],[],[],4,[3],⟨[.int .i64],[]⟩,[]⟩)]) (joins:=[(15,⟨[3,28],⟨[.int .i64, .int .i64],[]⟩,[],[],[],0,[],⟨[],[]⟩,[]⟩)]) (fl:=Fu.n)
theorem zk9:zw Tryz.prog (ND Qk):=recC (ND Qk) (fI) (fun S h=>l9 S h)
theorem gQ:zw Tryz.prog (N7 Au):=
 okC Tryz.f225 (memC qE zH) (fl:=Fu.n)
theorem mQ:zw Tryz.prog (S9 Cu):=
 okC Tryz.f221 (memC gQ zH) (fl:=Fu.n)
theorem Z7:zw Tryz.prog (M3 ZL):=
 okC Tryz.f35 zH (cuts:=[(3,⟨[10],⟨[.int .i64],[(0, .sl 5)]⟩,[2,3,8,9],[],[0],0,[],⟨[],[(0, .sl 5)]⟩,[0]⟩)]) (joins:=[(7,⟨[10],⟨[.int .i64],[(0, .sl 5)]⟩,[],[],[0],0,[],⟨[],[]⟩,[]⟩)]) (fl:=Fu.n)
theorem kQ:zw Tryz.prog (O9 Bu):=
 okC Tryz.f197 (memC mQ (memC Z7 zH)) (fl:=Fu.n)
theorem zl4:zw Tryz.prog (T9 tC):=
 okC Tryz.f222 zH (joins:=[(4,⟨[6],⟨[.bool],[]⟩,[1,5],[0],[],0,[],⟨[],[]⟩,[]⟩),(7,⟨[11],⟨[.bool],[]⟩,[],[],[],0,[],⟨[],[]⟩,[]⟩),(10,⟨[14],⟨[.bool],[]⟩,[],[],[],0,[],⟨[],[]⟩,[]⟩)]) (fl:=Fu.n)
theorem iI:zw Tryz.prog (zjy Qd):=
 okC Tryz.f223 zH (fl:=Fu.n) (exS:=⟨[.optr 0, .bool],[(0, .row 197)]⟩)
theorem Y1:zw Tryz.prog (eZ iB):=
 okC Tryz.f235 zH (fl:=Fu.n)
theorem yP:zw Tryz.prog (OY Dt):=
 okC Tryz.f226 (memC Y1 zH) (fl:=Fu.n)
theorem zi0(zB:zq×zf×Bool->Option Bool)(h_seltext_whole:zw Tryz.prog (ZQ zB)):zw Tryz.prog (zjz (gI zB)):=
 okC Tryz.f224 (memC h_seltext_whole zH) (p:=2) (fl:=Fu.n)
theorem zcW(zB:zq×zf×Bool->Option Bool)(h_seltext_whole:zw Tryz.prog (ZQ zB)):zw Tryz.prog (zc8 (QC zB)):=
 okC Tryz.f158 (memC (zi0 zB h_seltext_whole) zH) (p:=2) (cuts:=[(2,⟨[8],⟨[.int .i64],[]⟩,[0,1,7],[],[],0,[],⟨[],[]⟩,[]⟩)]) (fl:=Fu.n)
theorem zb3(zB:zq×zf×Bool->Option Bool)(h_seltext_whole:zw Tryz.prog (ZQ zB)):zw Tryz.prog (zb8 (ql zB)):=
 okC Tryz.f112 (memC (zcW zB h_seltext_whole) zH) (p:=2) (fl:=Fu.n)
theorem zk8(zB:zq×zf×Bool->Option Bool)(h_seltext_whole:zw Tryz.prog (ZQ zB)):zw Tryz.prog (zlU (Cy zB)):=
 okC Tryz.f198 (memC zl4 (memC iI (memC (zb3 zB h_seltext_whole) (memC mQ (memC kQ (memC gQ (memC yP zH))))))) (joins:=[(8,⟨[],⟨[],[]⟩,[2],[0],[],0,[],⟨[],[]⟩,[]⟩),(15,⟨[89],⟨[.bool],[]⟩,[10,88],[],[],0,[],⟨[],[]⟩,[]⟩)]) (fl:=Fu.n)
theorem AR(zB:zq×zf×Bool->Option Bool)(h_seltext_whole:zw Tryz.prog (ZQ zB)):zw Tryz.prog (zjw (QE zB)):=
 okC Tryz.f161 (memC kQ (memC (zk8 zB h_seltext_whole) zH)) (cuts:=[(4,⟨[30],⟨[.int .i64],[]⟩,[2,3,28,29],[0,1],[],0,[],⟨[],[]⟩,[]⟩)]) (fl:=Fu.n)
theorem zkg(zB:zq×zf×Bool->Option Bool)(h_seltext_whole:zw Tryz.prog (ZQ zB)):zw Tryz.prog (zkI (bI zB)):=
 okC Tryz.f160 (memC (AR zB h_seltext_whole) zH) (p:=1) (fl:=Fu.n)
theorem zdi(zB:zq×zf×Bool->Option Bool)(h_seltext_whole:zw Tryz.prog (ZQ zB)):zw Tryz.prog (zdE (QQ zB)):=
 okC Tryz.f196 (memC (zkg zB h_seltext_whole) zH) (p:=1) (cuts:=[(2,⟨[8],⟨[.int .i64],[]⟩,[0,1,7],[],[],0,[],⟨[],[]⟩,[]⟩)]) (fl:=Fu.n)
theorem zci(zB:zq×zf×Bool->Option Bool)(h_seltext_whole:zw Tryz.prog (ZQ zB)):zw Tryz.prog (zcx (qx zB)):=
 okC Tryz.f159 (memC (zdi zB h_seltext_whole) zH) (p:=1) (fl:=Fu.n)
theorem H9(zB:zq×zf×Bool->Option Bool)(hs:zw Tryz.prog (ZQ zB)):zw Tryz.prog (ZQ (OD zB)):=
 okC Tryz.f114 (memC (zci zB hs) zH) (cuts:=[(4,⟨[38],⟨[.int .i64],[]⟩,[3,4,36,37],[0,1],[],0,[],⟨[],[]⟩,[]⟩)]) (fl:=Fu.n)
theorem jQ:zw Tryz.prog (ZQ zB):=recC (ZQ zB) (OD) (fun S h=>H9 S h)
theorem zkf:zw Tryz.prog (zkH dQ):=
 okC Tryz.f113 (memC jQ zH) (fl:=Fu.n)
theorem zdY:zw Tryz.prog (zd9 PR):=
 okC Tryz.f158 (memC zkf zH) (cuts:=[(2,⟨[8],⟨[.int .i64],[]⟩,[0,1,7],[],[],0,[],⟨[],[]⟩,[]⟩)]) (fl:=Fu.n)
theorem zcI:zw Tryz.prog (zcT WR):=
 okC Tryz.f112 (memC zdY zH) (fl:=Fu.n)
theorem J9(qU:List zq->Option Int)(hs:zw Tryz.prog (TD qU)):zw Tryz.prog (TD (PD qU)):=
 okC Tryz.f115 (memC hs zH) (cuts:=[(3,⟨[3,14],⟨[.int .i64, .int .i64],[]⟩,[2,12,13],[],[],0,[3],⟨[.int .i64],[]⟩,[]⟩),(6,⟨[3,21],⟨[.int .i64, .int .i64],[]⟩,[14,19,20],[],[],2,[3],⟨[.int .i64],[]⟩,[]⟩),(9,⟨[3,28],⟨[.int .i64, .int .i64],[]⟩,[21,26,27],[],[],4,[3],⟨[.int .i64],[]⟩,[]⟩)]) (fl:=Fu.n)
theorem nQ:zw Tryz.prog (TD qU):=recC (TD qU) (PD) (fun S h=>J9 S h)
theorem zl3:zw Tryz.prog (U9 EQ):=
 okC Tryz.f75 (memC zcI (memC nQ zH)) (fl:=Fu.n)
theorem G6:zw Tryz.prog (Y4 IC):=
 okC Tryz.f76 zH (fl:=Fu.n)
theorem XI:zw Tryz.prog (K5 Wt):=
 okC Tryz.f31 zH (joins:=[(7,⟨[6],⟨[.bool],[]⟩,[0],[],[],0,[],⟨[],[]⟩,[]⟩)]) (fl:=Fu.n)
theorem yX(Ik:List za×Int->Option Zq)(hs:zw Tryz.prog (DC Ik)):zw Tryz.prog (DC (xB Ik)):=
 okC Tryz.f116 (memC XI (memC hs zH)) (cuts:=[(3,⟨[12],⟨[.int .i64],[(1, .row 200)]⟩,[1,4,5,10,11],[0],[1],0,[],⟨[],[(1, .row 200)]⟩,[1]⟩)]) (joins:=[(9,⟨[],⟨[],[(1, .row 200)]⟩,[7,8,12],[2],[1],0,[],⟨[],[]⟩,[]⟩),(12,⟨[12],⟨[.int .i64],[(1, .row 200)]⟩,[],[],[1],0,[],⟨[],[]⟩,[]⟩)]) (fl:=Fu.n) (exS:=⟨[.optr 0],[(0, .row 200)]⟩)
theorem vP:zw Tryz.prog (DC Ik):=recC (DC Ik) (xB) (fun S h=>yX S h)
theorem Tp:zw Tryz.prog (RZ Ck):=
 okC Tryz.f91 (memC vP zH) (fl:=Fu.n)
theorem RI:zw Tryz.prog (PZ Lt):=
 okC Tryz.f77 (memC Tp (memC vP zH)) (fl:=Fu.n)
theorem X5(Rl:List za×List zk->Option (List zk))(hs:zw Tryz.prog (KD Rl)):zw Tryz.prog (KD (wC Rl)):=
 okC Tryz.f162 (memC XI (memC hs zH)) (fz:=[(4,[3]),(7,[6])]) (p:=1) (cuts:=[(2,⟨[0,10],⟨[.own 1001, .int .i64],[(1001, .sl 70)]⟩,[4,8,9],[],[],0,[0],⟨[.own 1001],[(1001, .sl 70)]⟩,[1001]⟩)]) (joins:=[(8,⟨[0,10],⟨[.own 1103, .int .i64],[(1103, .sl 70)]⟩,[],[],[],0,[],⟨[],[]⟩,[]⟩)]) (fl:=Fu.n)
theorem O6:zw Tryz.prog (KD Rl):=recC (KD Rl) (wC) (fun S h=>X5 S h)
theorem P6:zw Tryz.prog (J5 yB):=
 okC Tryz.f162 (memC XI (memC O6 zH)) (fz:=[(4,[3]),(7,[6])]) (cuts:=[(2,⟨[0,10],⟨[.own 1105, .int .i64],[(1105, .sl 70)]⟩,[4,8,9],[],[],0,[0],⟨[.own 1105],[(1105, .sl 70)]⟩,[1105]⟩)]) (joins:=[(8,⟨[0,10],⟨[.own 1207, .int .i64],[(1207, .sl 70)]⟩,[],[],[],0,[],⟨[],[]⟩,[]⟩)]) (fl:=Fu.n)
theorem wP:zw Tryz.prog (FY Xw):=
 okC Tryz.f117 (memC Tp (memC P6 zH)) (fl:=Fu.n)
theorem Q3:zw Tryz.prog (zfG stringslite_HasPrefix):=
 okC Tryz.f99 zH (fl:=Fu.n)
theorem qD:zw Tryz.prog (ziI strings_HasPrefix):=
 okC Tryz.f57 (memC Q3 zH) (fl:=Fu.n)
theorem Y0:zw Tryz.prog (YZ eB):=
 okC Tryz.f118 (memC qE (memC qD (memC Z7 zH))) (fl:=Fu.n)
theorem zeO:zw Tryz.prog (zeZ stringslite_TrimPrefix):=
 okC Tryz.f236 (memC Q3 zH) (fl:=Fu.n)
theorem zhf:zw Tryz.prog (zhZ strings_TrimPrefix):=
 okC Tryz.f227 (memC zeO zH) (fl:=Fu.n)
theorem GQ:zw Tryz.prog (VZ Nt):=
 okC Tryz.f228 zH (fl:=Fu.n)
theorem E9:zw Tryz.prog (Y7 YC):=
 okC Tryz.f199 (memC zhf (memC GQ zH)) (fl:=Fu.n)
theorem A8:zw Tryz.prog (R3 EP):=
 okC Tryz.f229 zH (fl:=Fu.n)
theorem O0:zw Tryz.prog (UZ dB):=
 okC Tryz.f200 (memC A8 (memC GQ zH)) (fl:=Fu.n)
theorem zi1:zw Tryz.prog (zjA strings_Contains):=
 okC Tryz.f201 (memC xA zH) (fl:=Fu.n)
theorem nY:zw Tryz.prog (HY IB):=
 okC Tryz.f163 (memC qE (memC E9 (memC qD (memC O0 (memC zi1 zH))))) (joins:=[(8,⟨[3,4,5,6,7,25],⟨[.bool, .bool, .bool, .bool, .bool, .bool],[]⟩,[1,16],[],[],0,[],⟨[],[]⟩,[]⟩),(14,⟨[3,4,5,6,7,63],⟨[.bool, .bool, .bool, .bool, .bool, .bool],[]⟩,[],[],[],0,[],⟨[],[]⟩,[]⟩),(22,⟨[4,5,6,7,94],⟨[.bool, .bool, .bool, .bool, .bool],[]⟩,[3],[],[],0,[],⟨[],[]⟩,[]⟩),(24,⟨[3,4,5,6,7],⟨[.bool, .bool, .bool, .bool, .bool],[]⟩,[1],[0],[],0,[],⟨[],[]⟩,[]⟩)]) (fl:=Fu.n)
theorem D9:zw Tryz.prog (X7 Bn):=
 okC Tryz.f202 zH (p:=1) (fl:=Fu.n)
theorem QO:zw Tryz.prog (O3 ZZ):=
 okC Tryz.f106 (memC Z7 zH) (fl:=Fu.n)
theorem M0:zw Tryz.prog (TZ cB):=
 okC Tryz.f164 (memC D9 (memC QO zH)) (joins:=[(11,⟨[5],⟨[.int .i64],[]⟩,[3],[0],[],0,[],⟨[],[]⟩,[]⟩)]) (fl:=Fu.n)
theorem U0:zw Tryz.prog (WZ ow):=
 okC Tryz.f119 (memC nY (memC M0 zH)) (cuts:=[(4,⟨[10],⟨[.int .i64],[]⟩,[0,8,9],[],[],0,[],⟨[],[]⟩,[]⟩)]) (fl:=Fu.n)
theorem Bp:zw Tryz.prog (IW Qb):=
 okC Tryz.f123 zH (fl:=Fu.n)
theorem zk6(Zj:List za->Option Bool)(h_decl_closers:zw Tryz.prog (QM Zj)):zw Tryz.prog (zlT (Gy Zj)):=
 okC Tryz.f165 (memC Bp (memC h_decl_closers zH)) (fl:=Fu.n)
theorem zeN(Zj:List za->Option Bool)(h_decl_closers:zw Tryz.prog (QM Zj)):zw Tryz.prog (zeY (lI Zj)):=
 okC Tryz.f46 (memC (zk6 Zj h_decl_closers) zH) (cuts:=[(2,⟨[8],⟨[.int .i64],[]⟩,[0,1,7],[],[],0,[],⟨[],[]⟩,[]⟩)]) (fl:=Fu.n)
theorem zdh(Zj:List za->Option Bool)(h_decl_closers:zw Tryz.prog (QM Zj)):zw Tryz.prog (zdD (QP Zj)):=
 okC Tryz.f121 (memC (zeN Zj h_decl_closers) zH) (fl:=Fu.n)
theorem l6(Zj:List za->Option Bool)(hs:zw Tryz.prog (QM Zj)):zw Tryz.prog (QM (FD Zj)):=
 okC Tryz.f120 (memC (zdh Zj hs) zH) (fl:=Fu.n)
theorem F9:zw Tryz.prog (QM Zj):=recC (QM Zj) (FD) (fun S h=>l6 S h)
theorem xP:zw Tryz.prog (JY vo):=
 okC Tryz.f124 (memC Bp zH) (fl:=Fu.n)
theorem G9:zw Tryz.prog (l7 aC):=
 okC Tryz.f122 (memC Bp (memC xP zH)) (fl:=Fu.n)
theorem zdZ:zw Tryz.prog (zea Q5):=
 okC Tryz.f46 (memC G9 zH) (cuts:=[(2,⟨[8],⟨[.int .i64],[]⟩,[0,1,7],[],[],0,[],⟨[],[]⟩,[]⟩)]) (fl:=Fu.n)
theorem zcJ:zw Tryz.prog (zcU qB):=
 okC Tryz.f121 (memC zdZ zH) (fl:=Fu.n)
theorem SI:zw Tryz.prog (aZ Ep):=
 okC Tryz.f78 (memC wP (memC Y0 (memC U0 (memC F9 (memC zcJ (memC qD (memC Bp zH))))))) (fl:=Fu.n)
theorem U5(Dn:zt->Option Int)(hs:zw Tryz.prog (JD Dn)):zw Tryz.prog (JD (UI Dn)):=
 okC Tryz.f79 (memC hs zH) (cuts:=[(5,⟨[3,17],⟨[.int .i64, .int .i64],[]⟩,[15,16],[],[],0,[3],⟨[.int .i64],[]⟩,[]⟩)]) (joins:=[(4,⟨[3],⟨[.int .i64],[]⟩,[1],[0],[],0,[],⟨[],[]⟩,[]⟩)]) (fl:=Fu.n)
theorem I6:zw Tryz.prog (JD Dn):=recC (JD Dn) (UI) (fun S h=>U5 S h)
theorem WC:zw Tryz.prog (LY Ol):=
 okC Tryz.f128 zH (fl:=Fu.n)
theorem nI:zw Tryz.prog (zgT slices_Index_string):=
 okC Tryz.f209 zH (cuts:=[(2,⟨[8],⟨[.int .i64],[]⟩,[0,1,7],[],[],0,[],⟨[],[]⟩,[]⟩)]) (fl:=Fu.n)
theorem zeM:zw Tryz.prog (zeX slices_Contains_string):=
 okC Tryz.f174 (memC nI zH) (fl:=Fu.n)
theorem XQ:zw Tryz.prog (X3 Gx):=
 okC Tryz.f137 (memC zeM (memC Z7 (memC qE zH))) (fz:=[(1,[0])]) (fl:=Fu.n)
theorem C8:zw Tryz.prog (U3 xH):=
 okC Tryz.f210 zH (cuts:=[(2,⟨[7],⟨[.int .i64],[]⟩,[5,6],[],[],0,[],⟨[],[]⟩,[]⟩)]) (fl:=Fu.n)
theorem WQ:zw Tryz.prog (V3 Pp):=
 okC Tryz.f175 (memC C8 zH) (fz:=[(1,[1])]) (fl:=Fu.n)
theorem I1:zw Tryz.prog (bZ mH):=
 okC Tryz.f167 (memC WC (memC XQ (memC WQ zH))) (cuts:=[(4,⟨[23],⟨[.int .i64],[]⟩,[21,22],[],[],0,[],⟨[],[]⟩,[]⟩)]) (joins:=[(17,⟨[57],⟨[.bool],[]⟩,[4,23],[1],[],0,[],⟨[],[]⟩,[]⟩),(19,⟨[23],⟨[.int .i64],[]⟩,[],[],[],0,[],⟨[],[]⟩,[]⟩)]) (fl:=Fu.n)
theorem U1:zw Tryz.prog (cZ oO):=
 okC Tryz.f168 zH (fl:=Fu.n)
theorem uY:zw Tryz.prog (NY PN):=
 okC Tryz.f127 (memC WC (memC I1 (memC U1 zH))) (fl:=Fu.n)
theorem zh7:zw Tryz.prog (ziC yQ):=
 okC Tryz.f126 (memC uY zH) (fl:=Fu.n)
theorem zfi:zw Tryz.prog (zfE CR):=
 okC Tryz.f166 (memC zh7 zH) (cuts:=[(2,⟨[8],⟨[.int .i64],[]⟩,[0,1,7],[],[],0,[],⟨[],[]⟩,[]⟩)]) (fl:=Fu.n)
theorem zdX:zw Tryz.prog (zd8 TR):=
 okC Tryz.f125 (memC zfi zH) (fl:=Fu.n)
theorem zka:zw Tryz.prog (zkF sQ):=
 okC Tryz.f80 (memC zdX (memC WC zH)) (fl:=Fu.n)
theorem BZ(jm:zt->Option Int)(hs:zw Tryz.prog (iC jm)):zw Tryz.prog (iC (FI jm)):=
 okC Tryz.f81 (memC RI (memC hs zH)) (cuts:=[(9,⟨[5,27],⟨[.int .i64, .int .i64],[]⟩,[2,25,26],[],[],1,[5],⟨[.int .i64],[]⟩,[]⟩)]) (joins:=[(14,⟨[5,8],⟨[.int .i64, .int .i64],[]⟩,[27],[],[],0,[],⟨[],[]⟩,[]⟩)]) (fl:=Fu.n)
theorem Y2:zw Tryz.prog (iC jm):=recC (iC jm) (FI) (fun S h=>BZ S h)
theorem tY:zw Tryz.prog (KY LB):=
 okC Tryz.f169 zH (fl:=Fu.n)
theorem AY(ui:zt×Int->Option ((Int×Bool)×Int))(hs:zw Tryz.prog (vB ui)):zw Tryz.prog (vB (Xt ui)):=
 okC Tryz.f129 (memC RI (memC SI (memC WC (memC hs (memC tY zH))))) (p:=1) (cuts:=[(19,⟨[9,97],⟨[.int .i64, .int .i64],[(0, .row 3)]⟩,[1,95,96],[],[0],1,[9],⟨[.int .i64],[(0, .row 3)]⟩,[0]⟩)]) (joins:=[(15,⟨[69],⟨[.bool],[]⟩,[1,2,6],[0,1],[],0,[],⟨[],[]⟩,[]⟩),(26,⟨[9,12],⟨[.int .i64, .int .i64],[]⟩,[97],[0],[],0,[],⟨[],[]⟩,[]⟩)]) (fl:=Fu.n)
theorem rY:zw Tryz.prog (vB ui):=recC (vB ui) (Xt) (fun S h=>AY S h)
theorem GR:zw Tryz.prog (zhW QG):=
 okC Tryz.f82 (memC rY zH) (fl:=Fu.n)
theorem CZ(lm:List z8->Option zZ)(hs:zw Tryz.prog (jC lm)):zw Tryz.prog (jC (GI lm)):=
 okC Tryz.f45 (memC hs (memC zcV (memC zk9 (memC zl3 (memC G6 (memC RI (memC SI (memC I6 (memC zka (memC Y2 (memC GR zH))))))))))) (cuts:=[(3,⟨[18],⟨[.int .i64],[(1, .row 124)]⟩,[2,3,16,17],[0],[1],0,[],⟨[],[(1, .row 124)]⟩,[1]⟩),(17,⟨[10,87],⟨[.bool, .int .i64],[(3, .row 124)]⟩,[6,7,18,85,86],[1],[3],3,[10],⟨[.bool],[(3, .row 124)]⟩,[3]⟩)]) (joins:=[(35,⟨[7,10],⟨[.int .i64, .bool],[(1, .row 124),(3, .row 124)]⟩,[6,18],[],[1,3],0,[],⟨[],[]⟩,[]⟩)]) (fl:=Fu.n) (exS:=⟨[.optr 0],[(0, .row 124)]⟩)
theorem nZ:zw Tryz.prog (jC lm):=recC (jC lm) (GI) (fun S h=>CZ S h)
theorem H6:zw Tryz.prog (D5 NP):=
 okC Tryz.f33 (memC nZ zH) (fl:=Fu.n)
theorem J6:zw Tryz.prog (E5 OP):=
 okC Tryz.f21 (memC H6 zH) (fl:=Fu.n)
theorem YR:zw Tryz.prog (ze0 ZB):=
 okC Tryz.f43 (memC qD (memC xA zH)) (p:=1) (cuts:=[(0,⟨[],⟨[],[(0, .row 121)]⟩,[0],[],[0],0,[],⟨[],[(0, .row 121)]⟩,[0]⟩)]) (fl:=Fu.n)
theorem Zc:zw Tryz.prog (zh2 zo):=
 okC Tryz.f59 zH (p:=1) (fl:=Fu.n)
theorem Dy:zw Tryz.prog (J4 Gp):=
 okC Tryz.f60 zH (fl:=Fu.n)
theorem mI:zw Tryz.prog (zgV Z5):=
 okC Tryz.f61 (memC Zc (memC Dy zH)) (p:=1) (cuts:=[(0,⟨[],⟨[],[(0, .row 121)]⟩,[0,1],[],[0],0,[],⟨[],[(0, .row 121)]⟩,[0]⟩)]) (fl:=Fu.n)
theorem zdl:zw Tryz.prog (zdH QT):=
 okC Tryz.f187 zH (fz:=[(2,[1]),(4,[9]),(7,[14]),(9,[19])]) (joins:=[(7,⟨[25],⟨[.bool],[]⟩,[0,1,5],[],[],0,[],⟨[],[]⟩,[]⟩)]) (fl:=Fu.n)
theorem zih:zw Tryz.prog (ziN Qn):=
 okC Tryz.f149 (memC zdl zH) (fz:=[(2,[3])]) (fl:=Fu.n)
theorem RD:zw Tryz.prog (K8 om):=
 okC Tryz.f151 zH (fl:=Fu.n)
theorem Ey:zw Tryz.prog (M4 Qy):=
 okC Tryz.f103 (memC RD zH) (fl:=Fu.n)
theorem sP:zw Tryz.prog (CY Ms):=
 okC Tryz.f150 (memC Ey (memC RD zH)) (fl:=Fu.n)
theorem zeg:zw Tryz.prog (zeG Qj):=
 okC Tryz.f101 (memC Zc (memC zih (memC sP (memC Dy zH)))) (fz:=[(7,[3])]) (p:=1) (cuts:=[(10,⟨[6,36],⟨[.int .i64, .int .i64],[(0, .row 121)]⟩,[0,1,4],[],[0],0,[6],⟨[.int .i64],[(0, .row 121)]⟩,[0]⟩)]) (joins:=[(17,⟨[6],⟨[.int .i64],[(0, .row 121)]⟩,[1],[],[0],0,[],⟨[],[]⟩,[]⟩),(19,⟨[6],⟨[.int .i64],[]⟩,[],[0],[],0,[],⟨[],[]⟩,[]⟩)]) (fl:=Fu.n)
theorem zdm:zw Tryz.prog (zdI QU):=
 okC Tryz.f187 zH (fz:=[(2,[1]),(4,[9]),(7,[14]),(9,[19])]) (p:=1) (joins:=[(7,⟨[25],⟨[.bool],[(0, .sl 5)]⟩,[0,1,5],[],[0],0,[],⟨[],[]⟩,[]⟩)]) (fl:=Fu.n)
theorem zii:zw Tryz.prog (ziO Qo):=
 okC Tryz.f149 (memC zdm zH) (fz:=[(2,[3])]) (p:=1) (fl:=Fu.n)
theorem QA:zw Tryz.prog (zeH Z8):=
 okC Tryz.f101 (memC Zc (memC zii (memC sP (memC Dy zH)))) (fz:=[(7,[3])]) (p:=2) (cuts:=[(10,⟨[6,36],⟨[.int .i64, .int .i64],[(0, .row 121)]⟩,[0,1,4],[1],[0],0,[6],⟨[.int .i64],[(0, .row 121)]⟩,[0]⟩)]) (joins:=[(17,⟨[6],⟨[.int .i64],[(0, .row 121),(1, .sl 5)]⟩,[1],[],[0,1],0,[],⟨[],[]⟩,[]⟩),(19,⟨[6],⟨[.int .i64],[(1, .sl 5)]⟩,[],[0],[1],0,[],⟨[],[]⟩,[]⟩)]) (fl:=Fu.n)
theorem zf0:zw Tryz.prog (zgA QW):=
 okC Tryz.f62 (memC Zc (memC QA zH)) (fz:=[(5,[3])]) (p:=1) (cuts:=[(4,⟨[4],⟨[.own 1208],[(0, .row 121),(1, .row 70),(1208, .sl 5)]⟩,[0,2,3],[],[0,1],0,[4],⟨[.own 1208],[(0, .row 121),(1, .row 70),(1208, .sl 5)]⟩,[0,1,1208]⟩)]) (fl:=Fu.n) (exS:=⟨[.optr 1],[(0, .row 121),(1, .row 70)]⟩)
theorem TQ:zw Tryz.prog (K4 Lx):=
 okC Tryz.f102 (memC RD zH) (fl:=Fu.n)
theorem eQ:zw Tryz.prog (D7 oC):=
 okC Tryz.f63 (memC TQ (memC Ey zH)) (fl:=Fu.n)
theorem qA:zw Tryz.prog (zgy Zo):=
 okC Tryz.f64 (memC Zc zH) (p:=1) (fl:=Fu.n)
theorem ER:zw Tryz.prog (zh0 Zr):=
 okC Tryz.f65 (memC Zc (memC TQ (memC qA zH))) (p:=1) (fl:=Fu.n)
theorem pI:zw Tryz.prog (zh3 ZN):=
 okC Tryz.f66 (memC Zc (memC eQ (memC qA (memC QA zH)))) (fz:=[(5,[3])]) (p:=1) (cuts:=[(2,⟨[3],⟨[.own 1209],[(0, .row 121),(1209, .sl 5)]⟩,[0],[],[0],0,[],⟨[],[]⟩,[]⟩)]) (fl:=Fu.n)
theorem zfZ:zw Tryz.prog (zgz qF):=
 okC Tryz.f67 (memC Zc (memC Ey zH)) (p:=1) (joins:=[(5,⟨[3],⟨[.int .i64],[]⟩,[0],[],[],0,[],⟨[],[]⟩,[]⟩),(7,⟨[3],⟨[.int .i64],[]⟩,[],[],[],0,[],⟨[],[]⟩,[]⟩)]) (fl:=Fu.n)
theorem zfm:zw Tryz.prog (zfJ ZH):=
 okC Tryz.f61 (memC Zc (memC Ey zH)) (p:=1) (cuts:=[(0,⟨[],⟨[],[(0, .row 121)]⟩,[0,1],[],[0],0,[],⟨[],[(0, .row 121)]⟩,[0]⟩)]) (fl:=Fu.n)
theorem zfk:zw Tryz.prog (zfH QL):=
 okC Tryz.f104 (memC Zc (memC zfm (memC Ey zH))) (p:=1) (joins:=[(4,⟨[],⟨[],[(0, .row 121)]⟩,[0],[],[0],0,[],⟨[],[]⟩,[]⟩),(10,⟨[4],⟨[.bool],[(0, .row 121)]⟩,[],[],[0],0,[],⟨[],[]⟩,[]⟩),(15,⟨[4,5],⟨[.bool, .int .i64],[(0, .row 121)]⟩,[],[],[0],0,[],⟨[],[]⟩,[]⟩),(19,⟨[4],⟨[.bool],[(0, .row 121)]⟩,[],[],[0],0,[],⟨[],[]⟩,[]⟩)]) (fl:=Fu.n)
theorem zif:zw Tryz.prog (ziM aD):=
 okC Tryz.f105 (memC zAt (memC mY (memC zFH zH))) (cuts:=[(8,⟨[6,31],⟨[.int .i64, .int .i64],[]⟩,[0,2,3,4,5,29,30],[0],[],0,[6],⟨[.int .i64],[]⟩,[]⟩),(22,⟨[12,81],⟨[.int .i64, .int .i64],[]⟩,[4,79,80],[0],[],2,[12],⟨[.int .i64],[]⟩,[]⟩),(26,⟨[4,12],⟨[.int .i64, .int .i64],[]⟩,[],[],[],4,[12],⟨[.int .i64],[]⟩,[]⟩)]) (joins:=[(14,⟨[0,4,6],⟨[.str, .int .i64, .int .i64],[]⟩,[3,5],[],[],0,[],⟨[],[]⟩,[]⟩),(15,⟨[0,4],⟨[.str, .int .i64],[]⟩,[3],[],[],0,[],⟨[],[]⟩,[]⟩),(20,⟨[0,4],⟨[.str, .int .i64],[]⟩,[],[],[],0,[],⟨[],[]⟩,[]⟩),(31,⟨[12],⟨[.int .i64],[]⟩,[],[],[],0,[],⟨[],[]⟩,[]⟩)]) (fl:=Fu.n)
theorem zfl:zw Tryz.prog (zfI qW):=
 okC Tryz.f68 (memC zfk (memC zif (memC ER (memC pI (memC Zc zH))))) (p:=1) (joins:=[(9,⟨[],⟨[],[(0, .row 121),(1, .row 70),(2, .row 70)]⟩,[2,5],[],[0,1,2],0,[],⟨[],[]⟩,[]⟩)]) (fl:=Fu.n) (exS:=⟨[.optr 1],[(0, .row 121),(1, .row 70)]⟩)
theorem zic:zw Tryz.prog (ziK Qm):=
 okC Tryz.f155 (memC Zc (memC qA (memC zeg zH))) (p:=1) (cuts:=[(1,⟨[],⟨[],[(0, .row 121),(1, .row 70)]⟩,[0,2],[],[0,1],0,[],⟨[],[]⟩,[]⟩)]) (fl:=Fu.n) (exS:=⟨[.optr 1],[(0, .row 121),(1, .row 70)]⟩)
theorem zie:zw Tryz.prog (ziL bD):=
 okC Tryz.f107 (memC mI (memC Zc (memC Dy (memC zic (memC RD (memC qA (memC QA zH))))))) (fz:=[(18,[3])]) (p:=1) (cuts:=[(3,⟨[3],⟨[.own 1210],[(0, .row 121),(1, .row 70),(1210, .sl 5)]⟩,[0,2],[],[0,1],0,[],⟨[],[]⟩,[]⟩)]) (joins:=[(10,⟨[3,4],⟨[.own 1210, .int .i64],[(0, .row 121),(1, .row 70),(1210, .sl 5)]⟩,[],[],[0,1,1210],0,[],⟨[],[]⟩,[]⟩)]) (fl:=Fu.n) (exS:=⟨[.optr 1],[(0, .row 121),(1, .row 70)]⟩)
theorem zgI:zw Tryz.prog (zgU qR):=
 okC Tryz.f69 (memC pI (memC Zc (memC QO (memC mI (memC zie zH))))) (p:=1) (joins:=[(11,⟨[],⟨[],[(0, .row 121),(1, .row 70)]⟩,[2,3],[],[0,1],0,[],⟨[],[]⟩,[]⟩)]) (fl:=Fu.n) (exS:=⟨[.optr 1],[(0, .row 121),(1, .row 70)]⟩)
theorem DR:zw Tryz.prog (zh1 qC):=
 okC Tryz.f44 (memC Zc (memC Dy (memC mI (memC zf0 (memC eQ (memC qA (memC ER (memC pI (memC zfZ (memC zfl (memC qD (memC zgI (memC qE zH))))))))))))) (p:=1) (fl:=Fu.n) (exS:=⟨[.optr 1],[(0, .row 121),(1, .row 70)]⟩)
theorem zi2:zw Tryz.prog (zjB LD):=
 okC Tryz.f28 zH (fz:=[(1,[2])]) (p:=2) (fl:=Fu.n)
theorem O8:zw Tryz.prog (A7 nC):=
 okC Tryz.f27 (memC FH (memC YR (memC DR (memC zi2 zH)))) (p:=1) (cuts:=[(7,⟨[7],⟨[.int .i64],[(0, .cells 60 [.own 1211]),(1211, .sl 70),(1, .row 121)]⟩,[0,1,6],[],[0,1],0,[],⟨[],[(0, .cells 60 [.own 1211]),(1211, .sl 70),(1, .row 121)]⟩,[0,1,1211]⟩)]) (fl:=Fu.n)
theorem dI:zw Tryz.prog (F7 um):=
 okC Tryz.f17 (memC O8 zH) (fl:=Fu.n)
theorem oZ:zw Tryz.prog (IZ iw):=
 okC Tryz.f34 zH (fl:=Fu.n)
theorem zhe:zw Tryz.prog (zhY kI):=
 okC Tryz.f83 zH (p:=1) (cuts:=[(2,⟨[8],⟨[.int .i64],[]⟩,[0,1,7],[],[],0,[],⟨[],[]⟩,[]⟩)]) (fl:=Fu.n)
theorem zfh:zw Tryz.prog (zfD QK):=
 okC Tryz.f48 (memC zhe zH) (p:=1) (fl:=Fu.n)
theorem zl8:zw Tryz.prog (L9 OI):=
 okC Tryz.f47 (memC zfh zH) (p:=2) (fl:=Fu.n)
theorem zd0:zw Tryz.prog (zeb qZ):=
 okC Tryz.f46 (memC zl8 zH) (p:=2) (cuts:=[(2,⟨[8],⟨[.int .i64],[]⟩,[0,1,7],[],[],0,[],⟨[],[]⟩,[]⟩)]) (fl:=Fu.n)
theorem l5:zw Tryz.prog (R4 EC):=
 okC Tryz.f36 (memC zd0 zH) (p:=1) (fl:=Fu.n)
theorem qH:zw Tryz.prog (zgR Zd):=
 okC Tryz.f205 zH (p:=1) (fl:=Fu.n) (exS:=⟨[.optr 1],[(1, .row 70)]⟩)
theorem Q0:zw Tryz.prog (zfC Zm):=
 okC Tryz.f203 (memC qH zH) (p:=1) (cuts:=[(2,⟨[],⟨[],[(0, .row 281)]⟩,[0,2,3],[],[0],0,[],⟨[],[(0, .row 281)]⟩,[0]⟩)]) (fl:=Fu.n)
theorem oI:zw Tryz.prog (zgN Z4):=
 okC Tryz.f206 (memC qH zH) (p:=1) (fl:=Fu.n)
theorem zgF:zw Tryz.prog (zgO qO):=
 okC Tryz.f204 (memC oI (memC Q0 zH)) (p:=1) (cuts:=[(2,⟨[4],⟨[.int .i64],[(0, .row 281)]⟩,[0],[],[0],0,[],⟨[],[(0, .row 281)]⟩,[0]⟩)]) (fl:=Fu.n)
theorem zgG:zw Tryz.prog (zgQ Qx):=
 okC Tryz.f231 zH (p:=1) (fl:=Fu.n)
theorem UR:zw Tryz.prog (zgP qP):=
 okC Tryz.f208 zH (p:=1) (fl:=Fu.n)
theorem Y8:zw Tryz.prog (P7 MC):=
 okC Tryz.f230 (memC Q0 (memC qH (memC Z7 (memC UR (memC oI (memC xA (memC QO zH))))))) (joins:=[(20,⟨[],⟨[],[(0, .cells 139 [.int .u8, .str, .int .u8, .str, .bool, .int .i64, .int .i64, .bool, .nilv]),(1, .row 281),(2, .cells 139 [.int .u8, .str, .int .u8, .str, .bool, .int .i64, .int .i64, .bool, .nilv])]⟩,[2,4,5],[],[0,1,2],0,[],⟨[],[]⟩,[]⟩)]) (fl:=Fu.n) (exS:=⟨[.optr 0, .bool],[(0, .row 139)]⟩)
theorem lQ:zw Tryz.prog (R9 Wx):=
 okC Tryz.f237 zH (fz:=[(1,[0])]) (fl:=Fu.n)
end Go.Lv.VT
end
