/- Contracts. -/
import Derived.Test.YtanfjibdgcalfaaGreatDoorTx
import Derived.Test.YtanfjibdgcalfaaGreatDoorIp
import Derived.Test.YtanfjibdgcalfaaGreatDoorLf
import Derived.Test.YtanfjibdgcalfaaGreatDoorPa
import Derived.Test.YtanfjibdgcalfaaGreatDoorCw
noncomputable section
set_option linter.unusedSimpArgs false
set_option linter.unusedVariables false
namespace Go.Lv.VT
set_option maxRecDepth 100000
open Go.Proofs
theorem alt2 {T U V W:Type} {A B:T->Option U} {t:Option V} {c:V->Bool} {p:V->Option W} {d:W->Bool} {x:T} {y:U}
  (h:(za t fun v=>bif c v then za (A x) fun z=>some z else za (p v) fun w=>bif d w then za (A x) fun z=>some z else za (B x) fun z=>some z)=some y): ∃n:Bool,(cond n A B) x=some y:=by
 have key: ∀o:Option U,za o (fun z=>some z)=some y->o=some y:=fun o=>by cases o<;>exact id
 cases t with
 |none=>cases h
 |some v=>
  replace h:(bif c v then za (A x) fun z=>some z else za (p v) fun w=>bif d w then za (A x) fun z=>some z else za (B x) fun z=>some z)=some y:=h;cases hc:c v<;>rw[hc]at h
  ·replace h:(za (p v) fun w=>bif d w then za (A x) fun z=>some z else za (B x) fun z=>some z)=some y:=h;cases hp:p v with
   |none=>rw[hp]at h;cases h
   |some w=>
    rw[hp]at h;replace h:(bif d w then za (A x) fun z=>some z else za (B x) fun z=>some z)=some y:=h;cases hd:d w<;>rw[hd]at h
    ·exact⟨false,key _ h⟩
    ·exact⟨true,key _ h⟩
  ·exact⟨true,key _ h⟩
theorem okC{con:Con I}{S:List (Con I)}(f:Go.Func)(hS: ∀c∈S,zf Tryz.prog c)(fz:List (Nat×List Nat):=[])(pre:List (Nat×List (Nat×Option Nat)):=[])(p:Nat:=0)(cuts:List (Nat×Cut):=[])(joins:List (Nat×Cut):=[])(cls:List (Nat×List Nat):=[])(fl:Option Nat:=none)(exS:StSh:=con.outS)(hf:Tryz.prog.funcs[con.f]? =some f:=by kernel_rfl)(h:chk con (⟨S,fz,pre,p,cuts,joins,cls,fl⟩:Env0 I) f=true:=by kernel_rfl)(he: ∀x,evF2 (⟨S,fz,pre,p,cuts,joins,cls,fl⟩:Env0 I) T FK f.ntmps (rsl f) (body f) con exS x=con.F x:=by intro x;kernel_rfl):zf Tryz.prog con:=
 okC0 mixed ipOK tok rfl rfl hS hf h he
theorem recC(c:Con I)(B:((c.inS.sl I).T->Option (c.outS.sl I).T)->(c.inS.sl I).T->Option (c.outS.sl I).T)(hB: ∀S,zf Tryz.prog (⟨c.f,c.inS,c.cst,c.outS,c.k,S⟩:Con I)->zf Tryz.prog (⟨c.f,c.inS,c.cst,c.outS,c.k,B S⟩:Con I))(hwf:Bg (⟨c.f,c.inS,c.cst,c.outS,c.k,fun _=>Option.none⟩:Con I)=true:=by kernel_rfl):zf Tryz.prog (⟨c.f,c.inS,c.cst,c.outS,c.k,Lv.recE B⟩:Con I):=zf.recE B hwf hB
theorem Ag(c:Con I)(B:((c.inS.sl I).T->Option (c.outS.sl I).T)->(c.inS.sl I).T->Option (c.outS.sl I).T)(hB: ∀S,zf Tryz.prog (⟨c.f,c.inS,c.cst,c.outS,c.k,S⟩:Con I)->zf Tryz.prog (⟨c.f,c.inS,c.cst,c.outS,c.k,B S⟩:Con I))(n:Nat)(hwf:Bg (⟨c.f,c.inS,c.cst,c.outS,c.k,fun _=>Option.none⟩:Con I)=true:=by kernel_rfl):zf Tryz.prog (⟨c.f,c.inS,c.cst,c.outS,c.k,Ue B n⟩:Con I):=zf.iter B hwf hB n
def yz(F:List zg×Int->Option Int):Con I:=⟨103,⟨[.sl 68, .int .i64],[]⟩,[],⟨[.int .i64],[]⟩,0,F⟩
def jX(F:List zg->Option Bool):Con I:=⟨53,⟨[.sl 68],[]⟩,[],⟨[.bool],[]⟩,0,F⟩
def AA(F:List ze×Int->Option Int):Con I:=⟨104,⟨[.sl 135, .int .i64],[]⟩,[],⟨[.int .i64],[]⟩,0,F⟩
def R4(F:Int->Option Int):Con I:=⟨159,⟨[.int .u8],[]⟩,[],⟨[.int .u8],[]⟩,0,F⟩
def EA(F:List ze->Option Int):Con I:=⟨105,⟨[.sl 135],[]⟩,[],⟨[.int .i64],[]⟩,0,F⟩
def rX(F:List Za->Option Bool):Con I:=⟨54,⟨[.sl 33],[]⟩,[],⟨[.bool],[]⟩,0,F⟩
def vz(F:zm×Int->Option Int):Con I:=⟨106,⟨[.val 36, .int .i64],[]⟩,[],⟨[.int .i64],[]⟩,0,F⟩
def uz(F:zm->Option Bool):Con I:=⟨107,⟨[.val 36],[]⟩,[],⟨[.bool],[]⟩,0,F⟩
def aX(F:zm->Option Bool):Con I:=⟨55,⟨[.val 36],[]⟩,[],⟨[.bool],[]⟩,0,F⟩
def vB(F:List zC×Int->Option Bool):Con I:=⟨28,⟨[.sl 39, .int .i64],[]⟩,[],⟨[.bool],[]⟩,0,F⟩
def YB(F:List zC->Option Int):Con I:=⟨17,⟨[.sl 39],[]⟩,[],⟨[.int .i64],[]⟩,0,F⟩
def VX(F:List zC->Option Bool):Con I:=⟨12,⟨[.sl 39],[]⟩,[],⟨[.bool],[]⟩,0,F⟩
def bX(F:Str×Int->Option Bool):Con I:=⟨224,⟨[.str, .int .i64],[]⟩,[],⟨[.bool],[]⟩,0,F⟩
def iX(F:Str->Option Bool):Con I:=⟨168,⟨[.str],[]⟩,[],⟨[.bool],[]⟩,0,F⟩
def mW(F:Int->Option Int):Con I:=⟨265,⟨[.int .u8],[]⟩,[],⟨[.int .u8],[]⟩,0,F⟩
def nW(F:Str->Option Str):Con I:=⟨215,⟨[.str],[]⟩,[],⟨[.str],[]⟩,0,F⟩
def eX(F:Str->Option Bool):Con I:=⟨297,⟨[.str],[]⟩,[],⟨[.bool],[]⟩,0,F⟩
def K4(F:zx->Option QB):Con I:=⟨171,⟨[.val 72],[]⟩,[],⟨[.val 212],[]⟩,0,F⟩
def mX(F:VAnb->Option Bool):Con I:=⟨329,⟨[.val 70],[]⟩,[],⟨[.bool],[]⟩,0,F⟩
def dX(F:zX×Int->Option (zX×Bool)):Con I:=⟨351,⟨[.val 252, .int .u8],[]⟩,[],⟨[.val 252, .bool],[]⟩,0,F⟩
def J4(F:List zg×zX×Int->Option Bool):Con I:=⟨330,⟨[.sl 68, .val 252, .int .u8],[]⟩,[],⟨[.bool],[]⟩,0,F⟩
def I4(F:zx×zX->Option Bool):Con I:=⟨298,⟨[.val 72, .val 252],[]⟩,[],⟨[.bool],[]⟩,0,F⟩
def zsF(F:zy×zX->Option Bool):Con I:=⟨264,⟨[.val 65, .val 252],[]⟩,[],⟨[.bool],[]⟩,0,F⟩
def dm(F:zg×zX×Bool->Option Bool):Con I:=⟨214,⟨[.val 68, .val 252, .bool],[]⟩,[],⟨[.bool],[]⟩,0,F⟩
def zCI(F:List zg->Option Bool):Con I:=⟨160,⟨[.sl 68],[]⟩,[],⟨[.bool],[]⟩,0,F⟩
def aB(F:List zg->Option Int):Con I:=⟨161,⟨[.sl 68],[]⟩,[],⟨[.int .i64],[]⟩,0,F⟩
def lX(F:List zg->Option Int):Con I:=⟨108,⟨[.sl 68],[]⟩,[],⟨[.int .i64],[]⟩,0,F⟩
def BA(F:List ze×List ze->Option Bool):Con I:=⟨124,⟨[.sl 135, .sl 135],[]⟩,[],⟨[.bool],[]⟩,0,F⟩
def nX(F:Za×Za->Option Bool):Con I:=⟨65,⟨[.val 33, .val 33],[]⟩,[],⟨[.bool],[]⟩,0,F⟩
def wz(F:zm×zm->Option Bool):Con I:=⟨34,⟨[.val 36, .val 36],[]⟩,[],⟨[.bool],[]⟩,0,F⟩
def zCK(F:zm->Option Bool):Con I:=⟨109,⟨[.val 36],[]⟩,[],⟨[.bool],[]⟩,0,F⟩
def pX(F:Str->Option Bool):Con I:=⟨162,⟨[.str],[]⟩,[],⟨[.bool],[]⟩,0,F⟩
def cB(F:List ze->Option (List zk)):Con I:=⟨218,⟨[.sl 135],[]⟩,[],⟨[.sl 131],[]⟩,0,F⟩
def bB(F:List ze×Int->Option Bool):Con I:=⟨266,⟨[.sl 135, .int .u8],[]⟩,[],⟨[.bool],[]⟩,0,F⟩
def uX(F:List ze->Option Int):Con I:=⟨216,⟨[.sl 135],[]⟩,[],⟨[.int .i64],[]⟩,0,F⟩
def vX(F:Str->Option Bool):Con I:=⟨299,⟨[.str],[]⟩,[],⟨[.bool],[]⟩,0,F⟩
def lW(F:Int->Option Bool):Con I:=⟨331,⟨[.int .u8],[]⟩,[],⟨[.bool],[]⟩,0,F⟩
def zCF(F:Str->Option Bool):Con I:=⟨300,⟨[.str],[]⟩,[],⟨[.bool],[]⟩,0,F⟩
def yX(F:Int->Option Bool):Con I:=⟨352,⟨[.int .u8],[]⟩,[],⟨[.bool],[]⟩,0,F⟩
def zGL(F:Str×Int->Option Int):Con I:=⟨382,⟨[.str, .int .i64],[]⟩,[],⟨[.int .u8],[]⟩,0,F⟩
def U4(F:Str×Int->Option Int):Con I:=⟨353,⟨[.str, .int .i64],[]⟩,[],⟨[.int .i64],[]⟩,0,F⟩
def zCC(F:Unit->Option Str):Con I:=⟨406,⟨[],[]⟩,[],⟨[.str],[]⟩,0,F⟩
def zEC(F:Int->Option Int):Con I:=⟨407,⟨[.int .u8],[]⟩,[],⟨[.int .i64],[]⟩,0,F⟩
def zCB(F:Int->Option Str):Con I:=⟨408,⟨[.int .i64],[]⟩,[],⟨[.str],[]⟩,0,F⟩
def d9(F:Str×Int->Option (Str×Int)):Con I:=⟨383,⟨[.str, .int .i64],[]⟩,[],⟨[.str, .int .i64],[]⟩,0,F⟩
def V4(F:Str×Int->Option (zk×Int)):Con I:=⟨354,⟨[.str, .int .i64],[]⟩,[],⟨[.val 131, .int .i64],[]⟩,0,F⟩
def Y4(F:Int->Option Bool):Con I:=⟨384,⟨[.int .u8],[]⟩,[],⟨[.bool],[]⟩,0,F⟩
def E5(F:Int->Option Bool):Con I:=⟨355,⟨[.int .u8],[]⟩,[],⟨[.bool],[]⟩,0,F⟩
def G5(F:Str×Int->Option Bool):Con I:=⟨356,⟨[.str, .int .i64],[]⟩,[],⟨[.bool],[]⟩,0,F⟩
def AY(F:Str×Int->Option (Str×Int)):Con I:=⟨357,⟨[.str, .int .i64],[]⟩,[],⟨[.str, .int .i64],[]⟩,0,F⟩
def D5(F:Str×Int->Option Bool):Con I:=⟨358,⟨[.str, .int .i64],[]⟩,[],⟨[.bool],[]⟩,0,F⟩
def zsE(F:Str×Int->Option Bool):Con I:=⟨359,⟨[.str, .int .i64],[]⟩,[],⟨[.bool],[]⟩,0,F⟩
def X4(F:Str×Int->Option Int):Con I:=⟨409,⟨[.str, .int .i64],[]⟩,[],⟨[.int .i64],[]⟩,0,F⟩
def zq4(F:Str×Int->Option (Int×Bool)):Con I:=⟨385,⟨[.str, .int .i64],[]⟩,[],⟨[.int .i64, .bool],[]⟩,0,F⟩
def zoB(F:Str->Option Int):Con I:=⟨386,⟨[.str],[]⟩,[],⟨[.int .i64],[]⟩,0,F⟩
def zt0(F:Str×Int->Option (zk×Int)):Con I:=⟨360,⟨[.str, .int .i64],[]⟩,[],⟨[.val 131, .int .i64],[]⟩,0,F⟩
def zEF(F:Str×Int×Str->Option Bool):Con I:=⟨361,⟨[.str, .int .i64, .str],[]⟩,[],⟨[.bool],[]⟩,0,F⟩
def oW(F:Str×Str->Option Bool):Con I:=⟨268,⟨[.str, .str],[]⟩,[],⟨[.bool],[]⟩,0,F⟩
def zEE(F:Str×Int->Option (zk×Int)):Con I:=⟨410,⟨[.str, .int .i64],[]⟩,[],⟨[.val 131, .int .i64],[]⟩,0,F⟩
def zoC(F:Int->Option Bool):Con I:=⟨411,⟨[.int .u8],[]⟩,[],⟨[.bool],[]⟩,0,F⟩
def zEG(F:Str×Int->Option (zk×Int)):Con I:=⟨387,⟨[.str, .int .i64],[]⟩,[],⟨[.val 131, .int .i64],[]⟩,0,F⟩
def zCE(F:Str×Int->Option (zk×Int)):Con I:=⟨362,⟨[.str, .int .i64],[]⟩,[],⟨[.val 131, .int .i64],[]⟩,0,F⟩
def zCD(F:Int->Option Int):Con I:=⟨363,⟨[.int .u8],[]⟩,[],⟨[.int .u8],[]⟩,0,F⟩
def zED(F:Str×Int->Option (zk×Int)):Con I:=⟨332,⟨[.str, .int .i64],[]⟩,[],⟨[.val 131, .int .i64],[]⟩,0,F⟩
def wX(F:Int->Option Bool):Con I:=⟨301,⟨[.int .u8],[]⟩,[],⟨[.bool],[]⟩,0,F⟩
def zCG(F:zk->Option Bool):Con I:=⟨267,⟨[.val 131],[]⟩,[],⟨[.bool],[]⟩,0,F⟩
def xX(F:List zk->Option Int):Con I:=⟨217,⟨[.sl 131],[]⟩,[],⟨[.int .i64],[]⟩,0,F⟩
def wB(F:List ze->Option Bool):Con I:=⟨219,⟨[.sl 135],[]⟩,[],⟨[.bool],[]⟩,0,F⟩
def zt1(F:List ze->Option (List ze)):Con I:=⟨220,⟨[.sl 135],[]⟩,[],⟨[.sl 135],[]⟩,0,F⟩
def O4(F:Str->Option Bool):Con I:=⟨221,⟨[.str],[]⟩,[],⟨[.bool],[]⟩,0,F⟩
def M4(F:Str×List ze->Option Bool):Con I:=⟨163,⟨[.str, .sl 135],[]⟩,[],⟨[.bool],[]⟩,0,F⟩
def tX(F:Za->Option Int):Con I:=⟨110,⟨[.val 33],[]⟩,[],⟨[.int .i64],[]⟩,0,F⟩
def YX(F:Za->Option Bool):Con I:=⟨222,⟨[.val 33],[]⟩,[],⟨[.bool],[]⟩,0,F⟩
def X3(F:zm->Option Bool):Con I:=⟨164,⟨[.val 36],[]⟩,[],⟨[.bool],[]⟩,0,F⟩
def V3(F:Str->Option Bool):Con I:=⟨269,⟨[.str],[]⟩,[],⟨[.bool],[]⟩,0,F⟩
def zGM(F:Int->Option Bool):Con I:=⟨270,⟨[.int .i64],[]⟩,[],⟨[.bool],[]⟩,0,F⟩
def zEH(F:zm->Option (Bool×Bool)):Con I:=⟨223,⟨[.val 36],[]⟩,[],⟨[.bool, .bool],[]⟩,0,F⟩
def XX(F:zm->Option Bool):Con I:=⟨165,⟨[.val 36],[]⟩,[],⟨[.bool],[]⟩,0,F⟩
def Y3(F:zm->Option Bool):Con I:=⟨111,⟨[.val 36],[]⟩,[],⟨[.bool],[]⟩,0,F⟩
def xz(F:zm->Option Int):Con I:=⟨166,⟨[.val 36],[]⟩,[],⟨[.int .i64],[]⟩,0,F⟩
def xC(F:zm->Option Bool):Con I:=⟨167,⟨[.val 36],[]⟩,[],⟨[.bool],[]⟩,0,F⟩
def zpr(F:zm->Option Bool):Con I:=⟨112,⟨[.val 36],[]⟩,[],⟨[.bool],[]⟩,0,F⟩
def U3(F:List Str->Option Bool):Con I:=⟨113,⟨[.sl 9],[]⟩,[],⟨[.bool],[]⟩,0,F⟩
def XB(F:zC->Option Bool):Con I:=⟨56,⟨[.val 39],[]⟩,[],⟨[.bool],[]⟩,0,F⟩
def kX(F:zx->Option Bool):Con I:=⟨169,⟨[.val 72],[]⟩,[],⟨[.bool],[]⟩,0,F⟩
def jC(F:List zg->Option Int):Con I:=⟨114,⟨[.sl 68],[]⟩,[],⟨[.int .i64],[]⟩,0,F⟩
def zoE(F:zC->Option Int):Con I:=⟨115,⟨[.val 39],[]⟩,[],⟨[.int .i64],[]⟩,0,F⟩
def rz(F:List zC->Option Int):Con I:=⟨57,⟨[.sl 39],[]⟩,[],⟨[.int .i64],[]⟩,0,F⟩
def UX(F:List zC->Option Bool):Con I:=⟨29,⟨[.sl 39],[]⟩,[],⟨[.bool],[]⟩,0,F⟩
def WX(F:ZN->Option Int):Con I:=⟨13,⟨[.val 25],[]⟩,[],⟨[.int .i64],[]⟩,0,F⟩
def zq5(F:zC->Option Int):Con I:=⟨14,⟨[.val 39],[]⟩,[],⟨[.int .i64],[]⟩,0,F⟩
def zj6(F:Str×Str->Option Bool):Con I:=⟨154,⟨[.str, .str],[]⟩,[],⟨[.bool],[]⟩,0,F⟩
def zoK(F:Str×Str->Option Bool):Con I:=⟨97,⟨[.str, .str],[]⟩,[],⟨[.bool],[]⟩,0,F⟩
def ziy(F:zb->Option zb):Con I:=⟨135,⟨[.optr 0],[(0, .row 192)]⟩,[],⟨[],[(0, .row 192)]⟩,0,F⟩
def zny(F:Int×zb->Option Int):Con I:=⟨183,⟨[.optr 0, .int .i64],[(0, .row 192)]⟩,[0],⟨[.int .i64],[]⟩,0,F⟩
def zAb(F:Int->Option Bool):Con I:=⟨184,⟨[.int .i64],[]⟩,[],⟨[.bool],[]⟩,0,F⟩
def zln(F:zb->Option zb):Con I:=⟨185,⟨[.optr 0, .clo 184 []],[(0, .row 192)]⟩,[],⟨[],[(0, .row 192)]⟩,0,F⟩
def zgT(F:Int->Option (List UInt8)):Con I:=⟨314,⟨[.nilv, .int .i32],[]⟩,[],⟨[.own 0],[(0, .sl 5)]⟩,1,F⟩
def zoM(F:Int->Option (List UInt8)):Con I:=⟨283,⟨[.nilv, .int .i32],[]⟩,[],⟨[.own 0],[(0, .sl 5)]⟩,1,F⟩
def M5(F:Int×Int×Int->Option Bool):Con I:=⟨285,⟨[.int .i64, .int .i64, .int .i64],[]⟩,[],⟨[.bool],[]⟩,0,F⟩
def CY(F:Int->Option Bool):Con I:=⟨240,⟨[.int .i64],[]⟩,[],⟨[.bool],[]⟩,0,F⟩
def zEI(F:Int->Option Int):Con I:=⟨284,⟨[.int .i64],[]⟩,[],⟨[.int .i64],[]⟩,0,F⟩
def zhB(F:zb->Option (zb×List UInt8)):Con I:=⟨238,⟨[.optr 0, .nilv],[(0, .row 192)]⟩,[],⟨[.own 1],[(0, .row 192),(1, .sl 5)]⟩,1,F⟩
def zgU(F:Int×List UInt8->Option (List UInt8)):Con I:=⟨314,⟨[.own 0, .int .i32],[(0, .sl 5)]⟩,[],⟨[.own 1],[(1, .sl 5)]⟩,1,F⟩
def zoN(F:Int×List UInt8->Option (List UInt8)):Con I:=⟨283,⟨[.own 0, .int .i32],[(0, .sl 5)]⟩,[],⟨[.own 1],[(1, .sl 5)]⟩,1,F⟩
def zhC(F:zb×List UInt8->Option (zb×List UInt8)):Con I:=⟨238,⟨[.optr 0, .own 1],[(0, .row 192),(1, .sl 5)]⟩,[],⟨[.own 2],[(0, .row 192),(2, .sl 5)]⟩,1,F⟩
def zj8(F:zb->Option (zk×zb)):Con I:=⟨186,⟨[.optr 0],[(0, .row 192)]⟩,[],⟨[.val 131],[(0, .row 192)]⟩,0,F⟩
def zAa(F:Int->Option Bool):Con I:=⟨239,⟨[.int .i64],[]⟩,[],⟨[.bool],[]⟩,0,F⟩
def O5(F:Int->Option Bool):Con I:=⟨187,⟨[.int .i64],[]⟩,[],⟨[.bool],[]⟩,0,F⟩
def zlk(F:Int×zb->Option Bool):Con I:=⟨188,⟨[.optr 0, .int .i64],[(0, .row 192)]⟩,[0],⟨[.bool],[]⟩,0,F⟩
def znx(F:Int×zb->Option Bool):Con I:=⟨189,⟨[.optr 0, .int .i64],[(0, .row 192)]⟩,[0],⟨[.bool],[]⟩,0,F⟩
def zlT(F:zb->Option (Str×zb)):Con I:=⟨190,⟨[.optr 0],[(0, .row 192)]⟩,[],⟨[.str],[(0, .row 192)]⟩,0,F⟩
def zlm(F:zb->Option Bool):Con I:=⟨191,⟨[.optr 0],[(0, .row 192)]⟩,[0],⟨[.bool],[]⟩,0,F⟩
def zjh(F:zb->Option zb):Con I:=⟨185,⟨[.optr 0, .clo 240 []],[(0, .row 192)]⟩,[],⟨[],[(0, .row 192)]⟩,0,F⟩
def zjf(F:zb->Option (Bool×zb)):Con I:=⟨241,⟨[.optr 0],[(0, .row 192)]⟩,[],⟨[.bool],[(0, .row 192)]⟩,0,F⟩
def znA(F:Str->Option Int):Con I:=⟨242,⟨[.str],[]⟩,[],⟨[.int .i64],[]⟩,0,F⟩
def zjg(F:zb->Option (zk×zb)):Con I:=⟨192,⟨[.optr 0],[(0, .row 192)]⟩,[],⟨[.val 131],[(0, .row 192)]⟩,0,F⟩
def sZ(F:Str->Option Str):Con I:=⟨76,⟨[.str],[]⟩,[],⟨[.str],[]⟩,0,F⟩
def tZ(F:Str×Str->Option Bool):Con I:=⟨211,⟨[.str, .str],[]⟩,[],⟨[.bool],[]⟩,0,F⟩
def znw(F:zb->Option (zk×zb)):Con I:=⟨289,⟨[.optr 0],[(0, .row 192)]⟩,[],⟨[.val 131],[(0, .row 192)]⟩,0,F⟩
def znz(F:zb->Option (zk×zb)):Con I:=⟨243,⟨[.optr 0],[(0, .row 192)]⟩,[],⟨[.val 131],[(0, .row 192)]⟩,0,F⟩
def zll(F:zb->Option (zk×zb)):Con I:=⟨193,⟨[.optr 0],[(0, .row 192)]⟩,[],⟨[.val 131],[(0, .row 192)]⟩,0,F⟩
def zoL(F:Str×Int->Option Int):Con I:=⟨82,⟨[.str, .int .u8],[]⟩,[],⟨[.int .i64],[]⟩,0,F⟩
def zlS(F:zb->Option (zk×zb)):Con I:=⟨136,⟨[.optr 0],[(0, .row 192)]⟩,[],⟨[.val 131],[(0, .row 192)]⟩,0,F⟩
def zpz(F:(zk×Int×Int)×List zk->Option (List zk)):Con I:=⟨72,⟨[.val 131, .int .i64, .int .i64, .optr 0],[(0, .cells 90 [.own 1]),(1, .sl 131)]⟩,[],⟨[],[(0, .cells 90 [.own 2]),(2, .sl 131)]⟩,1,F⟩
def F8(F:Str->Option (Int×List zk)):Con I:=⟨71,⟨[.str, .clo 72 [0]],[(0, .cells 90 [.nilv])]⟩,[],⟨[.int .i64],[(0, .cells 90 [.own 1]),(1, .sl 131)]⟩,1,F⟩
def G8(F:Str->Option (List zk×Int)):Con I:=⟨38,⟨[.str],[]⟩,[],⟨[.sl 131, .int .i64],[]⟩,0,F⟩
def zCL(F:List ze->Option Int):Con I:=⟨75,⟨[.sl 135],[]⟩,[],⟨[.int .u8],[]⟩,0,F⟩
def zlQ(F:Int×List UInt8->Option Int):Con I:=⟨194,⟨[.own 0, .int .u8],[(0, .sl 5)]⟩,[0],⟨[.int .i64],[]⟩,0,F⟩
def zja(F:Int×List UInt8->Option Bool):Con I:=⟨139,⟨[.own 0, .int .u8],[(0, .sl 5)]⟩,[0],⟨[.bool],[]⟩,0,F⟩
def zsM(F:ze×List UInt8->Option Bool):Con I:=⟨138,⟨[.val 135, .optr 0],[(0, .cells 42 [.own 1]),(1, .sl 5)]⟩,[0,1],⟨[.bool],[]⟩,0,F⟩
def ziw(F:List ze×List UInt8->Option Int):Con I:=⟨137,⟨[.sl 135, .clo 138 [0]],[(0, .cells 42 [.own 1]),(1, .sl 5)]⟩,[0,1],⟨[.int .i64],[]⟩,0,F⟩
def P5(F:List ze×List UInt8->Option (List ze×List ze)):Con I:=⟨77,⟨[.sl 135, .own 0],[(0, .sl 5)]⟩,[0],⟨[.sl 135, .sl 135],[]⟩,0,F⟩
def rW(F:Int->Option Int):Con I:=⟨74,⟨[.int .u8],[]⟩,[],⟨[.int .u8],[]⟩,0,F⟩
def IA(F:List ze×Int->Option zU):Con I:=⟨88,⟨[.sl 135, .int .u8],[]⟩,[],⟨[.val 155],[]⟩,0,F⟩
def wW(F:List ze->Option Int):Con I:=⟨87,⟨[.sl 135],[]⟩,[],⟨[.int .i64],[]⟩,0,F⟩
def zlL(F:Int×zw->Option zk):Con I:=⟨325,⟨[.optr 0, .int .i64],[(0, .row 363)]⟩,[0],⟨[.val 131],[]⟩,0,F⟩
def zi7(F:zw->Option (Bool×zw)):Con I:=⟨323,⟨[.optr 0],[(0, .row 363)]⟩,[],⟨[.bool],[(0, .row 363)]⟩,0,F⟩
def zlI(F:Str×zw->Option (Bool×zw)):Con I:=⟨326,⟨[.optr 0, .str],[(0, .row 363)]⟩,[],⟨[.bool],[(0, .row 363)]⟩,0,F⟩
def zlf(F:zw->Option (Int×zw)):Con I:=⟨324,⟨[.optr 0],[(0, .row 363)]⟩,[],⟨[.int .u8],[(0, .row 363)]⟩,0,F⟩
def zlK(F:Int×zw->Option (List ze)):Con I:=⟨348,⟨[.optr 0, .int .i64],[(0, .row 363)]⟩,[0],⟨[.sl 135],[]⟩,0,F⟩
def zlJ(F:zw->Option Bool):Con I:=⟨328,⟨[.optr 0],[(0, .row 363)]⟩,[0],⟨[.bool],[]⟩,0,F⟩
def zt4(F:List ze->Option (zx×Bool)):Con I:=⟨347,⟨[.sl 135],[]⟩,[],⟨[.val 72, .bool],[]⟩,0,F⟩
def zt7(F:Unit->Option (List Str)):Con I:=⟨272,⟨[],[]⟩,[],⟨[.sl 9],[]⟩,0,F⟩
def zlj(F:List Str×Str->Option Int):Con I:=⟨296,⟨[.sl 9, .str],[]⟩,[],⟨[.int .i64],[]⟩,0,F⟩
def zt9(F:Str->Option (zx×Bool)):Con I:=⟨349,⟨[.str],[]⟩,[],⟨[.val 72, .bool],[]⟩,0,F⟩
def zsH(F:ze->Option Bool):Con I:=⟨404,⟨[.val 135],[]⟩,[],⟨[.bool],[]⟩,0,F⟩
def zgO(F:List ze->Option Int):Con I:=⟨137,⟨[.sl 135, .clo 404 []],[]⟩,[],⟨[.int .i64],[]⟩,0,F⟩
def zpv(F:zh×Int->Option (zh×Bool)):Con I:=⟨255,⟨[.val 151, .int .u8],[]⟩,[],⟨[.val 151, .bool],[]⟩,0,F⟩
def dB(F:List ze×List zk->Option (List zk)):Con I:=⟨150,⟨[.own 0, .sl 135],[(0, .sl 131)]⟩,[],⟨[.own 1],[(1, .sl 131)]⟩,1,F⟩
def H5(F:List ze->Option (List zk)):Con I:=⟨150,⟨[.nilv, .sl 135],[]⟩,[],⟨[.own 0],[(0, .sl 131)]⟩,1,F⟩
def zCy(F:List ze->Option (List zk×Int)):Con I:=⟨89,⟨[.sl 135],[]⟩,[],⟨[.sl 131, .int .i64],[]⟩,0,F⟩
def Y2(F:Str×Int->Option Bool):Con I:=⟨257,⟨[.str, .int .i64],[]⟩,[],⟨[.bool],[]⟩,0,F⟩
def zt6(F:Str->Option Bool):Con I:=⟨253,⟨[.str],[]⟩,[],⟨[.bool],[]⟩,0,F⟩
def zsJ(F:Str->Option Bool):Con I:=⟨205,⟨[.str],[]⟩,[],⟨[.bool],[]⟩,0,F⟩
def zt5(F:zx->Option (Bool×Bool)):Con I:=⟨254,⟨[.val 72],[]⟩,[],⟨[.bool, .bool],[]⟩,0,F⟩
def zCe(F:Int->Option Bool):Con I:=⟨294,⟨[.int .i64],[]⟩,[],⟨[.bool],[]⟩,0,F⟩
def zEq(F:VAnb->Option Int):Con I:=⟨258,⟨[.val 70],[]⟩,[],⟨[.int .i64],[]⟩,0,F⟩
def zpx(F:zy×zh->Option Bool):Con I:=⟨148,⟨[.val 65, .optr 0],[(0, .row 151)]⟩,[0],⟨[.bool],[]⟩,0,F⟩
def zf1(F:List zy×zh->Option Int):Con I:=⟨204,⟨[.sl 65, .clo 148 [0]],[(0, .row 151)]⟩,[0],⟨[.int .i64],[]⟩,0,F⟩
def zef(F:List zy×zh->Option Bool):Con I:=⟨147,⟨[.sl 65, .clo 148 [0]],[(0, .row 151)]⟩,[0],⟨[.bool],[]⟩,0,F⟩
def zsK(F:zg×zh×Bool->Option Bool):Con I:=⟨85,⟨[.val 68, .val 151, .bool],[]⟩,[],⟨[.bool],[]⟩,0,F⟩
def zoG(F:zg×zh×zx->Option Bool):Con I:=⟨256,⟨[.val 68, .optr 0, .optr 1],[(0, .row 151),(1, .row 72)]⟩,[0,1],⟨[.bool],[]⟩,0,F⟩
def zgM(F:List zg×zh×zx->Option Int):Con I:=⟨146,⟨[.sl 68, .clo 256 [0,1]],[(0, .row 151),(1, .row 72)]⟩,[0,1],⟨[.int .i64],[]⟩,0,F⟩
def ze5(F:List zg×zh×zx->Option Bool):Con I:=⟨83,⟨[.sl 68, .clo 256 [0,1]],[(0, .row 151),(1, .row 72)]⟩,[0,1],⟨[.bool],[]⟩,0,F⟩
def zq8(F:zx×zh->Option Bool):Con I:=⟨206,⟨[.val 72, .val 151],[]⟩,[],⟨[.bool],[]⟩,0,F⟩
def Zu(F:zy×zh->Option Bool):Con I:=⟨149,⟨[.val 65, .val 151],[]⟩,[],⟨[.bool],[]⟩,0,F⟩
def J3(F:zx×List ze×zh->Option (zx×Bool)):Con I:=⟨381,⟨[.val 72, .sl 135, .val 151],[]⟩,[],⟨[.val 72, .bool],[]⟩,0,F⟩
def zoF(F:Str×List ze×zh->Option (zx×Bool)):Con I:=⟨350,⟨[.str, .sl 135, .val 151],[]⟩,[],⟨[.val 72, .bool],[]⟩,0,F⟩
def ziu(F:zh×zw->Option ((List zx×Bool)×zw)):Con I:=⟨327,⟨[.optr 0, .val 151],[(0, .row 363)]⟩,[],⟨[.sl 72, .bool],[(0, .row 363)]⟩,0,F⟩
def znq(F:List ze×zh×Bool->Option (zg×Bool)):Con I:=⟨290,⟨[.sl 135, .val 151, .bool],[]⟩,[],⟨[.val 68, .bool],[]⟩,0,F⟩
def qM(F:List ze×zh×Bool×Bool->Option (List zg×Bool)):Con I:=⟨244,⟨[.sl 135, .val 151, .bool, .bool],[]⟩,[],⟨[.sl 68, .bool],[]⟩,0,F⟩
def iC(F:List zg->Option Int):Con I:=⟨86,⟨[.sl 68],[]⟩,[],⟨[.int .i64],[]⟩,0,F⟩
def KY(F:List ze->Option (List zg×Int)):Con I:=⟨195,⟨[.sl 135],[]⟩,[],⟨[.sl 68, .int .i64],[]⟩,0,F⟩
def vQ(F:List ze->Option (List ze)):Con I:=⟨170,⟨[.sl 135],[]⟩,[],⟨[.own 0],[(0, .sl 135)]⟩,1,F⟩
def GA(F:List ze->Option (List ze)):Con I:=⟨246,⟨[.sl 135],[]⟩,[],⟨[.sl 135],[]⟩,0,F⟩
def uW(F:List ze×Int->Option (List (List ze)×Int)):Con I:=⟨197,⟨[.sl 135, .int .u8],[]⟩,[],⟨[.sl 31, .int .i64],[]⟩,0,F⟩
def zHP(F:ze×Int->Option Bool):Con I:=⟨95,⟨[.val 135, .int .u8],[]⟩,[],⟨[.bool],[]⟩,0,F⟩
def zCn(F:List ze->Option (List ze)):Con I:=⟨292,⟨[.sl 135],[]⟩,[],⟨[.sl 135],[]⟩,0,F⟩
def IX(F:List ze->Option (List ze)):Con I:=⟨291,⟨[.sl 135],[]⟩,[],⟨[.sl 135],[]⟩,0,F⟩
def zEv(F:ze->Option Bool):Con I:=⟨96,⟨[.val 135],[]⟩,[],⟨[.bool],[]⟩,0,F⟩
def sW(F:Int×List ze->Option Bool):Con I:=⟨247,⟨[.int .i64, .optr 0],[(0, .row 31)]⟩,[0],⟨[.bool],[]⟩,0,F⟩
def zCA(F:List ze->Option (List ze×Int)):Con I:=⟨198,⟨[.sl 135],[]⟩,[],⟨[.sl 135, .int .i64],[]⟩,0,F⟩
def JX(F:Str->Option Bool):Con I:=⟨90,⟨[.str],[]⟩,[],⟨[.bool],[]⟩,0,F⟩
def zjd(F:Str×Str->Option Str):Con I:=⟨295,⟨[.str, .str],[]⟩,[],⟨[.str],[]⟩,0,F⟩
def znu(F:Str×Str->Option Str):Con I:=⟨259,⟨[.str, .str],[]⟩,[],⟨[.str],[]⟩,0,F⟩
def zCr(F:Int->Option Bool):Con I:=⟨260,⟨[.int .u8],[]⟩,[],⟨[.bool],[]⟩,0,F⟩
def xZ(F:Str->Option Bool):Con I:=⟨207,⟨[.str],[]⟩,[],⟨[.bool],[]⟩,0,F⟩
def CX(F:Int->Option Bool):Con I:=⟨261,⟨[.int .u8],[]⟩,[],⟨[.bool],[]⟩,0,F⟩
def zCu(F:Int->Option Bool):Con I:=⟨208,⟨[.int .u8],[]⟩,[],⟨[.bool],[]⟩,0,F⟩
def zpy(F:Str×Str->Option Bool):Con I:=⟨209,⟨[.str, .str],[]⟩,[],⟨[.bool],[]⟩,0,F⟩
def zEy(F:zk->Option Bool):Con I:=⟨151,⟨[.val 131],[]⟩,[],⟨[.bool],[]⟩,0,F⟩
def wZ(F:(Int×Int)×List zk->Option Bool):Con I:=⟨210,⟨[.int .i64, .int .u8, .optr 0],[(0, .row 90)]⟩,[0],⟨[.bool],[]⟩,0,F⟩
def BX(F:List zk->Option Int):Con I:=⟨152,⟨[.sl 131],[]⟩,[],⟨[.int .i64],[]⟩,0,F⟩
def EX(F:List zk->Option Int):Con I:=⟨91,⟨[.sl 131],[]⟩,[],⟨[.int .i64],[]⟩,0,F⟩
def zq3(F:ze->Option Bool):Con I:=⟨153,⟨[.val 135],[]⟩,[],⟨[.bool],[]⟩,0,F⟩
def zgP(F:List ze->Option Int):Con I:=⟨137,⟨[.sl 135, .clo 153 []],[]⟩,[],⟨[.int .i64],[]⟩,0,F⟩
def zfY(F:List ze->Option Bool):Con I:=⟨93,⟨[.sl 135, .clo 153 []],[]⟩,[],⟨[.bool],[]⟩,0,F⟩
def QD(F:List ze->Option Bool):Con I:=⟨92,⟨[.sl 135],[]⟩,[],⟨[.bool],[]⟩,0,F⟩
def Y0(F:ze->Option Bool):Con I:=⟨94,⟨[.val 135],[]⟩,[],⟨[.bool],[]⟩,0,F⟩
def zgQ(F:List ze->Option Int):Con I:=⟨137,⟨[.sl 135, .clo 94 []],[]⟩,[],⟨[.int .i64],[]⟩,0,F⟩
def ze7(F:List ze->Option Bool):Con I:=⟨93,⟨[.sl 135, .clo 94 []],[]⟩,[],⟨[.bool],[]⟩,0,F⟩
def KX(F:Za->Option Int):Con I:=⟨48,⟨[.val 33],[]⟩,[],⟨[.int .i64],[]⟩,0,F⟩
def zEw(F:List ze->Option (Za×Bool)):Con I:=⟨245,⟨[.sl 135],[]⟩,[],⟨[.val 33, .bool],[]⟩,0,F⟩
def zGK(F:List ze->Option (List Za×Int)):Con I:=⟨196,⟨[.sl 135],[]⟩,[],⟨[.sl 33, .int .i64],[]⟩,0,F⟩
def R5(F:List ze×List ze->Option (zC×Bool)):Con I:=⟨140,⟨[.sl 135, .sl 135],[]⟩,[],⟨[.val 39, .bool],[]⟩,0,F⟩
def I8(F:Str->Option Bool):Con I:=⟨81,⟨[.str],[]⟩,[],⟨[.bool],[]⟩,0,F⟩
def zhA(F:List Str->Option Int):Con I:=⟨144,⟨[.own 0, .clo 81 []],[(0, .sl 9)]⟩,[0],⟨[.int .i64],[]⟩,0,F⟩
def zfv(F:List Str->Option Bool):Con I:=⟨80,⟨[.own 0, .clo 81 []],[(0, .sl 9)]⟩,[0],⟨[.bool],[]⟩,0,F⟩
def U5(F:List Str->Option Bool):Con I:=⟨43,⟨[.own 0],[(0, .sl 9)]⟩,[0],⟨[.bool],[]⟩,0,F⟩
def EY(F:List ze->Option (List Str×Bool)):Con I:=⟨199,⟨[.sl 135],[]⟩,[],⟨[.sl 9, .bool],[]⟩,0,F⟩
def X5(F:List ze×Bool->Option (zC×Bool)):Con I:=⟨141,⟨[.sl 135, .bool],[]⟩,[],⟨[.val 39, .bool],[]⟩,0,F⟩
def zpo(F:zB->Option Int):Con I:=⟨248,⟨[.optr 0],[(0, .row 242)]⟩,[0],⟨[.int .u8],[]⟩,0,F⟩
def zpp(F:zB->Option (ze×zB)):Con I:=⟨249,⟨[.optr 0],[(0, .row 242)]⟩,[],⟨[.val 135],[(0, .row 242)]⟩,0,F⟩
def zlH(F:zB->Option (Bool×zB)):Con I:=⟨200,⟨[.optr 0],[(0, .row 242)]⟩,[],⟨[.bool],[(0, .row 242)]⟩,0,F⟩
def zoA(F:List Str×zB->Option (Str×zB)):Con I:=⟨250,⟨[.optr 0, .sl 9],[(0, .row 242)]⟩,[],⟨[.str],[(0, .row 242)]⟩,0,F⟩
def ziv(F:List Str×Str->Option Bool):Con I:=⟨262,⟨[.sl 9, .str],[]⟩,[],⟨[.bool],[]⟩,0,F⟩
def I1(F:Str->Option Bool):Con I:=⟨212,⟨[.str],[]⟩,[],⟨[.bool],[]⟩,0,F⟩
def O0(F:List Int->Option Int):Con I:=⟨263,⟨[.sl 2],[]⟩,[],⟨[.int .i64],[]⟩,0,F⟩
def X0(F:Int->Option Int):Con I:=⟨213,⟨[.int .i64],[]⟩,[],⟨[.int .i64],[]⟩,0,F⟩
def zld(F:zB->Option ((zm×Bool)×zB)):Con I:=⟨251,⟨[.optr 0],[(0, .row 242)]⟩,[],⟨[.val 36, .bool],[(0, .row 242)]⟩,0,F⟩
def znm(F:zB->Option ((zm×Bool)×zB)):Con I:=⟨201,⟨[.optr 0],[(0, .row 242)]⟩,[],⟨[.val 36, .bool],[(0, .row 242)]⟩,0,F⟩
def RX(F:List ze->Option (zm×Int)):Con I:=⟨142,⟨[.sl 135],[]⟩,[],⟨[.val 36, .int .i64],[]⟩,0,F⟩
def zEu(F:List ze->Option (Za×Bool×Int)):Con I:=⟨293,⟨[.sl 135],[]⟩,[],⟨[.val 33, .bool, .int .i64],[]⟩,0,F⟩
def zoz(F:zB->Option ((zm×Bool)×zB)):Con I:=⟨252,⟨[.optr 0],[(0, .row 242)]⟩,[],⟨[.val 36, .bool],[(0, .row 242)]⟩,0,F⟩
def QC(F:zB->Option ((zm×Bool)×zB)):Con I:=⟨202,⟨[.optr 0],[(0, .row 242)]⟩,[],⟨[.val 36, .bool],[(0, .row 242)]⟩,0,F⟩
def vW(F:List ze->Option (Int×Int)):Con I:=⟨47,⟨[.sl 135],[]⟩,[],⟨[.int .i64, .int .i64],[]⟩,0,F⟩
def zEs(F:zm->Option Bool):Con I:=⟨101,⟨[.val 36],[]⟩,[],⟨[.bool],[]⟩,0,F⟩
def zEt(F:zm->Option Bool):Con I:=⟨158,⟨[.val 36],[]⟩,[],⟨[.bool],[]⟩,0,F⟩
def JA(F:zm×Int->Option ((Int×Bool)×Int)):Con I:=⟨102,⟨[.val 36, .optr 0],[(0, .row 3)]⟩,[],⟨[.int .i64, .bool],[(0, .row 3)]⟩,0,F⟩
def zlG(F:zm->Option Int):Con I:=⟨52,⟨[.val 36],[]⟩,[],⟨[.int .i64],[]⟩,0,F⟩
def zsC(F:List ze->Option (zm×Int)):Con I:=⟨143,⟨[.sl 135],[]⟩,[],⟨[.val 36, .int .i64],[]⟩,0,F⟩
def zlh(F:(Bool×Str×List ze)×zJ->Option ((zC×Bool)×zJ)):Con I:=⟨78,⟨[.optr 0, .bool, .str, .sl 135, .nilp],[(0, .row 80)]⟩,[],⟨[.val 39, .bool],[(0, .row 80)]⟩,0,F⟩
def znr(F:(Bool×Str×List ze×ze)×zJ->Option ((zC×Bool)×zJ)):Con I:=⟨78,⟨[.optr 0, .bool, .str, .sl 135, .ptr 135],[(0, .row 80)]⟩,[],⟨[.val 39, .bool],[(0, .row 80)]⟩,0,F⟩
def Qa(F:(List ze×Bool)×zJ->Option (List zC×zJ)):Con I:=⟨40,⟨[.optr 0, .sl 135, .bool],[(0, .row 80)]⟩,[],⟨[.sl 39],[(0, .row 80)]⟩,0,F⟩
def DY(F:Str->Option (List zC×Int)):Con I:=⟨25,⟨[.str],[]⟩,[],⟨[.sl 39, .nilp, .int .i64],[]⟩,0,F⟩
def IY(F:Str->Option (ZN×Int)):Con I:=⟨7,⟨[.str],[]⟩,[],⟨[.val 25, .int .i64],[]⟩,0,F⟩
def H8(F:Str->Option ((List zC×Int)×zJ)):Con I:=⟨25,⟨[.str],[]⟩,[],⟨[.sl 39, .optr 0, .int .i64],[(0, .row 80)]⟩,1,F⟩
def L8(F:Str->Option (ZN×Int)):Con I:=⟨7,⟨[.str],[]⟩,[],⟨[.val 25, .int .i64],[]⟩,0,F⟩
def K8(F:Str->Option (ZN×Int)):Con I:=⟨7,⟨[.str],[]⟩,[],⟨[.val 25, .int .i64],[]⟩,0,F⟩
def zf3(F:List Str->Option Int):Con I:=⟨144,⟨[.sl 9, .clo 81 []],[]⟩,[],⟨[.int .i64],[]⟩,0,F⟩
def zeh(F:List Str->Option Bool):Con I:=⟨80,⟨[.sl 9, .clo 81 []],[]⟩,[],⟨[.bool],[]⟩,0,F⟩
def zsL(F:List Str->Option Bool):Con I:=⟨43,⟨[.sl 9],[]⟩,[],⟨[.bool],[]⟩,0,F⟩
def J8(F:List Str->Option Bool):Con I:=⟨42,⟨[.sl 9],[]⟩,[],⟨[.bool],[]⟩,0,F⟩
def zf2(F:List (List Str)->Option Int):Con I:=⟨79,⟨[.sl 59, .clo 42 []],[]⟩,[],⟨[.int .i64],[]⟩,0,F⟩
def zeg(F:List (List Str)->Option Bool):Con I:=⟨41,⟨[.sl 59, .clo 42 []],[]⟩,[],⟨[.bool],[]⟩,0,F⟩
def uC(F:List zg->Option Int):Con I:=⟨44,⟨[.sl 68],[]⟩,[],⟨[.int .i64],[]⟩,0,F⟩
def zpt(F:zg->Option Bool):Con I:=⟨84,⟨[.val 68],[]⟩,[],⟨[.bool],[]⟩,0,F⟩
def zfw(F:List zg->Option Int):Con I:=⟨146,⟨[.sl 68, .clo 84 []],[]⟩,[],⟨[.int .i64],[]⟩,0,F⟩
def zdZ(F:List zg->Option Bool):Con I:=⟨83,⟨[.sl 68, .clo 84 []],[]⟩,[],⟨[.bool],[]⟩,0,F⟩
def zsG(F:List zg->Option Int):Con I:=⟨45,⟨[.sl 68],[]⟩,[],⟨[.int .i64],[]⟩,0,F⟩
def GY(F:zm->Option Bool):Con I:=⟨46,⟨[.val 36],[]⟩,[],⟨[.bool],[]⟩,0,F⟩
def VB(F:zm->Option Int):Con I:=⟨49,⟨[.val 36],[]⟩,[],⟨[.int .i64],[]⟩,0,F⟩
def MX(F:zm->Option Bool):Con I:=⟨156,⟨[.val 36],[]⟩,[],⟨[.bool],[]⟩,0,F⟩
def zCi(F:zm->Option Bool):Con I:=⟨157,⟨[.val 36],[]⟩,[],⟨[.bool],[]⟩,0,F⟩
def zCg(F:zm->Option Bool):Con I:=⟨100,⟨[.val 36],[]⟩,[],⟨[.bool],[]⟩,0,F⟩
def znk(F:zm->Option Bool):Con I:=⟨99,⟨[.val 36],[]⟩,[],⟨[.bool],[]⟩,0,F⟩
def zjb(F:List zm->Option Int):Con I:=⟨155,⟨[.sl 36, .clo 99 []],[]⟩,[],⟨[.int .i64],[]⟩,0,F⟩
def zgK(F:List zm->Option Bool):Con I:=⟨98,⟨[.sl 36, .clo 99 []],[]⟩,[],⟨[.bool],[]⟩,0,F⟩
def zpn(F:zm->Option Int):Con I:=⟨50,⟨[.val 36],[]⟩,[],⟨[.int .i64],[]⟩,0,F⟩
def AB(F:zm->Option Int):Con I:=⟨51,⟨[.val 36],[]⟩,[],⟨[.int .i64],[]⟩,0,F⟩
def BB(F:List zC->Option zq):Con I:=⟨26,⟨[.sl 39],[]⟩,[],⟨[.val 77],[]⟩,0,F⟩
def J2(F:List zC->Option Int):Con I:=⟨27,⟨[.sl 39],[]⟩,[],⟨[.int .i64],[]⟩,0,F⟩
def U2(F:ZN->Option Int):Con I:=⟨10,⟨[.val 25],[]⟩,[],⟨[.int .i64],[]⟩,0,F⟩
def zei(F:Str×List UInt8->Option (Int×List UInt8)):Con I:=⟨67,⟨[.optr 0, .str],[(0, .cells 218 [.nop 0 218 2, .own 1]),(1, .sl 5)]⟩,[],⟨[.int .i64, .nili],[(0, .cells 218 [.nop 0 218 2, .own 2]),(2, .sl 5)]⟩,1,F⟩
def zgS(F:Int×List UInt8->Option (List UInt8)):Con I:=⟨225,⟨[.optr 0, .int .u8],[(0, .cells 218 [.nop 0 218 2, .own 1]),(1, .sl 5)]⟩,[],⟨[.nili],[(0, .cells 218 [.nop 0 218 2, .own 2]),(2, .sl 5)]⟩,1,F⟩
def zCs(F:Str->Option Int):Con I:=⟨233,⟨[.str],[]⟩,[],⟨[.int .i64],[]⟩,0,F⟩
def ztU(F:Int×List UInt8->Option (List UInt8)):Con I:=⟨276,⟨[.own 0, .int .u8],[(0, .sl 5)]⟩,[],⟨[.own 1],[(1, .sl 5)]⟩,1,F⟩
def M0(F:Str×Int->Option (List UInt8)):Con I:=⟨232,⟨[.nilv, .str, .int .i64],[]⟩,[],⟨[.own 0],[(0, .sl 5)]⟩,1,F⟩
def yZ(F:(Str×Int)×List UInt8->Option (List UInt8)):Con I:=⟨232,⟨[.own 0, .str, .int .i64],[(0, .sl 5)]⟩,[],⟨[.own 1],[(1, .sl 5)]⟩,1,F⟩
def w9(F:Int×Bool->Option (List UInt8)):Con I:=⟨333,⟨[.nilv, .int .i64, .bool],[]⟩,[],⟨[.own 0],[(0, .sl 5)]⟩,1,F⟩
def zCt(F:Unit->Option za7):Con I:=⟨334,⟨[],[]⟩,[],⟨[.val 372],[]⟩,0,F⟩
def vZ(F:zk->Option (List UInt8)):Con I:=⟨302,⟨[.nilv, .val 131],[]⟩,[],⟨[.own 0],[(0, .sl 5)]⟩,1,F⟩
def zEx(F:zk->Option (Str×Int)):Con I:=⟨271,⟨[.val 131],[]⟩,[],⟨[.str, .int .i64],[]⟩,0,F⟩
def zj0(F:zk×List UInt8->Option (List UInt8)):Con I:=⟨226,⟨[.optr 0, .val 131],[(0, .cells 218 [.nop 0 218 2, .own 1]),(1, .sl 5)]⟩,[],⟨[],[(0, .cells 218 [.nop 0 218 2, .own 2]),(2, .sl 5)]⟩,1,F⟩
def zj7(F:Str×Str->Option Bool):Con I:=⟨370,⟨[.str, .str],[]⟩,[],⟨[.bool],[]⟩,0,F⟩
def zje(F:Str×Str->Option Str):Con I:=⟨336,⟨[.str, .str],[]⟩,[],⟨[.str],[]⟩,0,F⟩
def znv(F:Str×Str->Option Str):Con I:=⟨304,⟨[.str, .str],[]⟩,[],⟨[.str],[]⟩,0,F⟩
def zGH(F:VAnb->Option (Str×Int)):Con I:=⟨273,⟨[.val 70],[]⟩,[],⟨[.str, .int .i64],[]⟩,0,F⟩
def zi8(F:List zg×List UInt8->Option (List UInt8)):Con I:=⟨174,⟨[.optr 0, .sl 68],[(0, .cells 218 [.nop 0 218 2, .own 1]),(1, .sl 5)]⟩,[],⟨[],[(0, .cells 218 [.nop 0 218 2, .own 2]),(2, .sl 5)]⟩,1,F⟩
def qy(F:zx×List UInt8->Option (List UInt8)):Con I:=⟨227,⟨[.optr 0, .val 72],[(0, .cells 218 [.nop 0 218 2, .own 1]),(1, .sl 5)]⟩,[],⟨[],[(0, .cells 218 [.nop 0 218 2, .own 2]),(2, .sl 5)]⟩,1,F⟩
def zlg(F:List zg->Option (List UInt8)):Con I:=⟨174,⟨[.optr 0, .sl 68],[(0, .cells 218 [.nop 0 218 2, .nilv])]⟩,[],⟨[],[(0, .cells 218 [.nop 0 218 2, .own 1]),(1, .sl 5)]⟩,1,F⟩
def zlR(F:List UInt8->Option Int):Con I:=⟨70,⟨[.optr 0],[(0, .cells 218 [.nop 0 218 2, .own 1]),(1, .sl 5)]⟩,[0,1],⟨[.int .i64],[]⟩,0,F⟩
def zt3(F:List zg->Option (Str×Int)):Con I:=⟨129,⟨[.sl 68],[]⟩,[],⟨[.str, .int .i64],[]⟩,0,F⟩
def zj4(F:Bool->Option Int):Con I:=⟨70,⟨[.optr 0],[(0, .cells 126 [.nop 0 126 3, .nilv, .bool])]⟩,[0],⟨[.int .i64],[]⟩,0,F⟩
def zej(F:Str×Bool->Option (Int×Bool×List UInt8)):Con I:=⟨67,⟨[.optr 0, .str],[(0, .cells 126 [.nop 0 126 3, .nilv, .bool])]⟩,[],⟨[.int .i64, .nili],[(0, .cells 126 [.nop 0 126 3, .own 1, .bool]),(1, .sl 5)]⟩,1,F⟩
def zps(F:(Str×Int)×Bool->Option (Bool×List UInt8)):Con I:=⟨128,⟨[.optr 0, .str, .int .i64],[(0, .cells 126 [.nop 0 126 3, .nilv, .bool])]⟩,[],⟨[],[(0, .cells 126 [.nop 0 126 3, .own 1, .bool]),(1, .sl 5)]⟩,1,F⟩
def zj5(F:Bool×List UInt8->Option Int):Con I:=⟨70,⟨[.optr 0],[(0, .cells 126 [.nop 0 126 3, .own 1, .bool]),(1, .sl 5)]⟩,[0,1],⟨[.int .i64],[]⟩,0,F⟩
def zek(F:Str×Bool×List UInt8->Option (Int×Bool×List UInt8)):Con I:=⟨67,⟨[.optr 0, .str],[(0, .cells 126 [.nop 0 126 3, .own 1, .bool]),(1, .sl 5)]⟩,[],⟨[.int .i64, .nili],[(0, .cells 126 [.nop 0 126 3, .own 2, .bool]),(2, .sl 5)]⟩,1,F⟩
def zno(F:(Str×Int)×Bool×List UInt8->Option (Bool×List UInt8)):Con I:=⟨128,⟨[.optr 0, .str, .int .i64],[(0, .cells 126 [.nop 0 126 3, .own 1, .bool]),(1, .sl 5)]⟩,[],⟨[],[(0, .cells 126 [.nop 0 126 3, .own 2, .bool]),(2, .sl 5)]⟩,1,F⟩
def zCq(F:Str->Option (Str×Int)):Con I:=⟨179,⟨[.str],[]⟩,[],⟨[.str, .int .i64],[]⟩,0,F⟩
def r9(F:(Int×Bool)×List UInt8->Option (List UInt8)):Con I:=⟨333,⟨[.own 0, .int .i64, .bool],[(0, .sl 5)]⟩,[],⟨[.own 1],[(1, .sl 5)]⟩,1,F⟩
def uZ(F:zk×List UInt8->Option (List UInt8)):Con I:=⟨302,⟨[.own 0, .val 131],[(0, .sl 5)]⟩,[],⟨[.own 1],[(1, .sl 5)]⟩,1,F⟩
def zlO(F:List zk×List zk->Option Bool):Con I:=⟨305,⟨[.sl 131, .sl 131],[]⟩,[],⟨[.bool],[]⟩,0,F⟩
def DX(F:List zk->Option (Str×Int)):Con I:=⟨274,⟨[.sl 131],[]⟩,[],⟨[.str, .int .i64],[]⟩,0,F⟩
def zCz(F:List ze->Option (Str×Int)):Con I:=⟨228,⟨[.sl 135],[]⟩,[],⟨[.str, .int .i64],[]⟩,0,F⟩
def zCm(F:Za->Option (Str×Int)):Con I:=⟨175,⟨[.val 33],[]⟩,[],⟨[.str, .int .i64],[]⟩,0,F⟩
def zCl(F:List Za->Option (Str×Int)):Con I:=⟨130,⟨[.sl 33],[]⟩,[],⟨[.str, .int .i64],[]⟩,0,F⟩
def PX(F:zm->Option Int):Con I:=⟨176,⟨[.val 36],[]⟩,[],⟨[.int .i64],[]⟩,0,F⟩
def ztT(F:Int×Int×List UInt8->Option (Int×List UInt8)):Con I:=⟨275,⟨[.int .u8, .optr 0, .optr 1],[(0, .row 3),(1, .sl 5)]⟩,[],⟨[],[(0, .row 3),(1, .sl 5)]⟩,0,F⟩
def U0(F:Int->Option (Str×Int)):Con I:=⟨230,⟨[.int .i64],[]⟩,[],⟨[.str, .int .i64],[]⟩,0,F⟩
def zCh(F:List zm×Str->Option Str):Con I:=⟨229,⟨[.sl 36, .str, .clo 177 []],[]⟩,[],⟨[.str],[]⟩,0,F⟩
def lu(F:zm->Option Str):Con I:=⟨177,⟨[.val 36],[]⟩,[],⟨[.str],[]⟩,0,F⟩
def zpq(F:zm×Bool->Option (Str×Bool)):Con I:=⟨231,⟨[.val 36, .optr 0],[(0, .cells 223 [.optr 1]),(1, .row 4)]⟩,[0],⟨[.str],[(1, .row 4)]⟩,0,F⟩
def U1(F:(List zm×Str)×Bool->Option (Str×Bool)):Con I:=⟨229,⟨[.sl 36, .str, .clo 231 [0]],[(0, .cells 223 [.optr 1]),(1, .row 4)]⟩,[0],⟨[.str],[(1, .row 4)]⟩,0,F⟩
def QW(F:zm×Bool->Option (Str×Bool)):Con I:=⟨178,⟨[.val 36, .optr 0],[(0, .row 4)]⟩,[],⟨[.str],[(0, .row 4)]⟩,0,F⟩
def zCf(F:zm->Option (Str×Int)):Con I:=⟨131,⟨[.val 36],[]⟩,[],⟨[.str, .int .i64],[]⟩,0,F⟩
def zjZ(F:(Str×Str)×Bool×List UInt8->Option (Bool×List UInt8)):Con I:=⟨127,⟨[.str, .str, .optr 0],[(0, .cells 181 [.optr 1]),(1, .cells 126 [.nop 1 126 3, .own 2, .bool]),(2, .sl 5)]⟩,[0],⟨[],[(1, .cells 126 [.nop 1 126 3, .own 3, .bool]),(3, .sl 5)]⟩,1,F⟩
def znn(F:List Str×Bool×List UInt8->Option (Bool×List UInt8)):Con I:=⟨133,⟨[.optr 0, .sl 9],[(0, .cells 126 [.nop 0 126 3, .own 1, .bool]),(1, .sl 5)]⟩,[],⟨[],[(0, .cells 126 [.nop 0 126 3, .own 2, .bool]),(2, .sl 5)]⟩,1,F⟩
def zle(F:zC×Bool×List UInt8->Option (Bool×List UInt8)):Con I:=⟨69,⟨[.optr 0, .val 39],[(0, .cells 126 [.nop 0 126 3, .own 1, .bool]),(1, .sl 5)]⟩,[],⟨[],[(0, .cells 126 [.nop 0 126 3, .own 2, .bool]),(2, .sl 5)]⟩,1,F⟩
def qZ(F:List zC×Bool×List UInt8->Option (Bool×List UInt8)):Con I:=⟨132,⟨[.optr 0, .sl 39],[(0, .cells 126 [.nop 0 126 3, .own 1, .bool]),(1, .sl 5)]⟩,[],⟨[],[(0, .cells 126 [.nop 0 126 3, .own 2, .bool]),(2, .sl 5)]⟩,1,F⟩
def znp(F:zC×Bool->Option (Bool×List UInt8)):Con I:=⟨69,⟨[.optr 0, .val 39],[(0, .cells 126 [.nop 0 126 3, .nilv, .bool])]⟩,[],⟨[],[(0, .cells 126 [.nop 0 126 3, .own 1, .bool]),(1, .sl 5)]⟩,1,F⟩
def LY(F:zC->Option (Str×Int)):Con I:=⟨37,⟨[.val 39],[]⟩,[],⟨[.str, .int .i64],[]⟩,0,F⟩
def K3(F:ZN->Option (List Str×Int)):Con I:=⟨23,⟨[.val 25],[]⟩,[],⟨[.sl 9, .int .i64],[]⟩,0,F⟩
def M3(F:ZN->Option (Str×Int)):Con I:=⟨22,⟨[.val 25],[]⟩,[],⟨[.str, .int .i64],[]⟩,0,F⟩
def p9(F:Str×Str->Option Bool):Con I:=⟨21,⟨[.str, .str],[]⟩,[],⟨[.bool],[]⟩,0,F⟩
def rZ(F:Unit->Option Bool):Con I:=⟨15,⟨[],[]⟩,[],⟨[.bool],[]⟩,0,F⟩
def zgR(F:List Str->Option Int):Con I:=⟨144,⟨[.sl 9, .clo 81 []],[]⟩,[],⟨[.int .i64],[]⟩,0,F⟩
def ze8(F:List Str->Option Bool):Con I:=⟨80,⟨[.sl 9, .clo 81 []],[]⟩,[],⟨[.bool],[]⟩,0,F⟩
def FY(F:List Str->Option Bool):Con I:=⟨43,⟨[.sl 9],[]⟩,[],⟨[.bool],[]⟩,0,F⟩
def V5(F:List Str->Option Bool):Con I:=⟨42,⟨[.sl 9],[]⟩,[],⟨[.bool],[]⟩,0,F⟩
def zix(F:List (List Str)->Option Int):Con I:=⟨79,⟨[.sl 59, .clo 42 []],[]⟩,[],⟨[.int .i64],[]⟩,0,F⟩
def zfZ(F:List (List Str)->Option Bool):Con I:=⟨41,⟨[.sl 59, .clo 42 []],[]⟩,[],⟨[.bool],[]⟩,0,F⟩
def aC(F:List zg->Option Int):Con I:=⟨44,⟨[.sl 68],[]⟩,[],⟨[.int .i64],[]⟩,0,F⟩
def xW(F:Str->Option Str):Con I:=⟨76,⟨[.str],[]⟩,[],⟨[.str],[]⟩,0,F⟩
def zt8(F:Str->Option Bool):Con I:=⟨205,⟨[.str],[]⟩,[],⟨[.bool],[]⟩,0,F⟩
def zpw(F:zg×zh×zx->Option Bool):Con I:=⟨256,⟨[.val 68, .optr 0, .optr 1],[(0, .row 151),(1, .row 72)]⟩,[0,1],⟨[.bool],[]⟩,0,F⟩
def zf0(F:List zg×zh×zx->Option Int):Con I:=⟨146,⟨[.sl 68, .clo 256 [0,1]],[(0, .row 151),(1, .row 72)]⟩,[0,1],⟨[.int .i64],[]⟩,0,F⟩
def zee(F:List zg×zh×zx->Option Bool):Con I:=⟨83,⟨[.sl 68, .clo 256 [0,1]],[(0, .row 151),(1, .row 72)]⟩,[0,1],⟨[.bool],[]⟩,0,F⟩
def zsI(F:zx×zh->Option Bool):Con I:=⟨206,⟨[.val 72, .val 151],[]⟩,[],⟨[.bool],[]⟩,0,F⟩
def zpu(F:zy×zh->Option Bool):Con I:=⟨149,⟨[.val 65, .val 151],[]⟩,[],⟨[.bool],[]⟩,0,F⟩
def zq9(F:zy×zh->Option Bool):Con I:=⟨148,⟨[.val 65, .optr 0],[(0, .row 151)]⟩,[0],⟨[.bool],[]⟩,0,F⟩
def zgN(F:List zy×zh->Option Int):Con I:=⟨204,⟨[.sl 65, .clo 148 [0]],[(0, .row 151)]⟩,[0],⟨[.int .i64],[]⟩,0,F⟩
def ze6(F:List zy×zh->Option Bool):Con I:=⟨147,⟨[.sl 65, .clo 148 [0]],[(0, .row 151)]⟩,[0],⟨[.bool],[]⟩,0,F⟩
def ZO(F:zg×zh×Bool->Option Bool):Con I:=⟨85,⟨[.val 68, .val 151, .bool],[]⟩,[],⟨[.bool],[]⟩,0,F⟩
def zq7(F:zg->Option Bool):Con I:=⟨84,⟨[.val 68],[]⟩,[],⟨[.bool],[]⟩,0,F⟩
def zhy(F:List zg->Option Int):Con I:=⟨146,⟨[.sl 68, .clo 84 []],[]⟩,[],⟨[.int .i64],[]⟩,0,F⟩
def zft(F:List zg->Option Bool):Con I:=⟨83,⟨[.sl 68, .clo 84 []],[]⟩,[],⟨[.bool],[]⟩,0,F⟩
def uB(F:List zg->Option Int):Con I:=⟨86,⟨[.sl 68],[]⟩,[],⟨[.int .i64],[]⟩,0,F⟩
def zt2(F:List zg->Option Int):Con I:=⟨45,⟨[.sl 68],[]⟩,[],⟨[.int .i64],[]⟩,0,F⟩
def Vz(F:List ze×Int->Option zU):Con I:=⟨88,⟨[.sl 135, .int .u8],[]⟩,[],⟨[.val 155],[]⟩,0,F⟩
def zCw(F:List ze->Option Int):Con I:=⟨87,⟨[.sl 135],[]⟩,[],⟨[.int .i64],[]⟩,0,F⟩
def zCx(F:List ze->Option (Int×Int)):Con I:=⟨47,⟨[.sl 135],[]⟩,[],⟨[.int .i64, .int .i64],[]⟩,0,F⟩
def EB(F:List ze×List zk->Option (List zk)):Con I:=⟨150,⟨[.own 0, .sl 135],[(0, .sl 131)]⟩,[],⟨[.own 1],[(1, .sl 131)]⟩,1,F⟩
def pW(F:List ze->Option (List zk)):Con I:=⟨150,⟨[.nilv, .sl 135],[]⟩,[],⟨[.own 0],[(0, .sl 131)]⟩,1,F⟩
def zEA(F:List ze->Option (List zk×Int)):Con I:=⟨89,⟨[.sl 135],[]⟩,[],⟨[.sl 131, .int .i64],[]⟩,0,F⟩
def zCo(F:Str->Option Bool):Con I:=⟨90,⟨[.str],[]⟩,[],⟨[.bool],[]⟩,0,F⟩
def AX(F:Str×Str->Option Bool):Con I:=⟨211,⟨[.str, .str],[]⟩,[],⟨[.bool],[]⟩,0,F⟩
def zCv(F:List zk->Option Int):Con I:=⟨152,⟨[.sl 131],[]⟩,[],⟨[.int .i64],[]⟩,0,F⟩
def zCp(F:List zk->Option Int):Con I:=⟨91,⟨[.sl 131],[]⟩,[],⟨[.int .i64],[]⟩,0,F⟩
def zsD(F:ze->Option Bool):Con I:=⟨153,⟨[.val 135],[]⟩,[],⟨[.bool],[]⟩,0,F⟩
def zjc(F:List ze->Option Int):Con I:=⟨137,⟨[.sl 135, .clo 153 []],[]⟩,[],⟨[.int .i64],[]⟩,0,F⟩
def zgL(F:List ze->Option Bool):Con I:=⟨93,⟨[.sl 135, .clo 153 []],[]⟩,[],⟨[.bool],[]⟩,0,F⟩
def Xm(F:List ze->Option Bool):Con I:=⟨92,⟨[.sl 135],[]⟩,[],⟨[.bool],[]⟩,0,F⟩
def zhz(F:List ze->Option Int):Con I:=⟨137,⟨[.sl 135, .clo 94 []],[]⟩,[],⟨[.int .i64],[]⟩,0,F⟩
def zfu(F:List ze->Option Bool):Con I:=⟨93,⟨[.sl 135, .clo 94 []],[]⟩,[],⟨[.bool],[]⟩,0,F⟩
def zCk(F:Za->Option Int):Con I:=⟨48,⟨[.val 33],[]⟩,[],⟨[.int .i64],[]⟩,0,F⟩
def CB(F:zm->Option Int):Con I:=⟨49,⟨[.val 36],[]⟩,[],⟨[.int .i64],[]⟩,0,F⟩
def zlP(F:List Str×Str->Option Int):Con I:=⟨296,⟨[.sl 9, .str],[]⟩,[],⟨[.int .i64],[]⟩,0,F⟩
def zi9(F:List Str×Str->Option Bool):Con I:=⟨262,⟨[.sl 9, .str],[]⟩,[],⟨[.bool],[]⟩,0,F⟩
def OX(F:Str->Option Bool):Con I:=⟨212,⟨[.str],[]⟩,[],⟨[.bool],[]⟩,0,F⟩
def FX(F:List Int->Option Int):Con I:=⟨263,⟨[.sl 2],[]⟩,[],⟨[.int .i64],[]⟩,0,F⟩
def GX(F:Int->Option Int):Con I:=⟨213,⟨[.int .i64],[]⟩,[],⟨[.int .i64],[]⟩,0,F⟩
def zCj(F:zm->Option Bool):Con I:=⟨156,⟨[.val 36],[]⟩,[],⟨[.bool],[]⟩,0,F⟩
def zEr(F:zm->Option Bool):Con I:=⟨100,⟨[.val 36],[]⟩,[],⟨[.bool],[]⟩,0,F⟩
def zoy(F:zm->Option Bool):Con I:=⟨99,⟨[.val 36],[]⟩,[],⟨[.bool],[]⟩,0,F⟩
def zj3(F:List zm->Option Int):Con I:=⟨155,⟨[.sl 36, .clo 99 []],[]⟩,[],⟨[.int .i64],[]⟩,0,F⟩
def zhx(F:List zm->Option Bool):Con I:=⟨98,⟨[.sl 36, .clo 99 []],[]⟩,[],⟨[.bool],[]⟩,0,F⟩
def zq2(F:zm->Option Int):Con I:=⟨50,⟨[.val 36],[]⟩,[],⟨[.int .i64],[]⟩,0,F⟩
def nz(F:zm->Option Int):Con I:=⟨51,⟨[.val 36],[]⟩,[],⟨[.int .i64],[]⟩,0,F⟩
def Wz(F:zm×Int->Option ((Int×Bool)×Int)):Con I:=⟨102,⟨[.val 36, .optr 0],[(0, .row 3)]⟩,[],⟨[.int .i64, .bool],[(0, .row 3)]⟩,0,F⟩
def znl(F:zm->Option Int):Con I:=⟨52,⟨[.val 36],[]⟩,[],⟨[.int .i64],[]⟩,0,F⟩
def oz(F:List zC->Option zq):Con I:=⟨26,⟨[.sl 39],[]⟩,[],⟨[.val 77],[]⟩,0,F⟩
def HY(F:List zC->Option Int):Con I:=⟨27,⟨[.sl 39],[]⟩,[],⟨[.int .i64],[]⟩,0,F⟩
def JY(F:ZN->Option Int):Con I:=⟨10,⟨[.val 25],[]⟩,[],⟨[.int .i64],[]⟩,0,F⟩
def zra(F:zC->Option Int):Con I:=⟨30,⟨[.val 39],[]⟩,[],⟨[.int .i64],[]⟩,0,F⟩
def zoJ(F:List zC->Option (List zC)):Con I:=⟨58,⟨[.sl 39],[]⟩,[],⟨[.own 0],[(0, .sl 39)]⟩,1,F⟩
def zli(F:List zg->Option (List zg)):Con I:=⟨116,⟨[.sl 68],[]⟩,[],⟨[.own 0],[(0, .sl 68)]⟩,1,F⟩
def zj1(F:List zy->Option (List zy)):Con I:=⟨117,⟨[.sl 65],[]⟩,[],⟨[.own 0],[(0, .sl 65)]⟩,1,F⟩
def znt(F:List UInt8->Option (List UInt8)):Con I:=⟨118,⟨[.sl 5],[]⟩,[],⟨[.own 0],[(0, .sl 5)]⟩,1,F⟩
def zlM(F:List zx->Option (List zx)):Con I:=⟨119,⟨[.sl 72],[]⟩,[],⟨[.own 0],[(0, .sl 72)]⟩,1,F⟩
def vC(F:List zg->Option (List zg)):Con I:=⟨59,⟨[.sl 68],[]⟩,[],⟨[.sl 68],[]⟩,0,F⟩
def zoI(F:List Za->Option (List Za)):Con I:=⟨120,⟨[.sl 33],[]⟩,[],⟨[.own 0],[(0, .sl 33)]⟩,1,F⟩
def zns(F:List ze->Option (List ze)):Con I:=⟨170,⟨[.sl 135],[]⟩,[],⟨[.own 0],[(0, .sl 135)]⟩,1,F⟩
def WB(F:List ze->Option (List ze)):Con I:=⟨121,⟨[.sl 135],[]⟩,[],⟨[.sl 135],[]⟩,0,F⟩
def SX(F:List Za->Option (List Za)):Con I:=⟨60,⟨[.sl 33],[]⟩,[],⟨[.sl 33],[]⟩,0,F⟩
def zoH(F:List zm->Option (List zm)):Con I:=⟨122,⟨[.sl 36],[]⟩,[],⟨[.own 0],[(0, .sl 36)]⟩,1,F⟩
def wC(F:zm->Option zm):Con I:=⟨61,⟨[.val 36],[]⟩,[],⟨[.val 36],[]⟩,0,F⟩
def zlN(F:List (List Str)->Option (List (List Str))):Con I:=⟨62,⟨[.sl 59],[]⟩,[],⟨[.own 0],[(0, .sl 59)]⟩,1,F⟩
def zj2(F:List Str->Option (List Str)):Con I:=⟨63,⟨[.sl 9],[]⟩,[],⟨[.own 0],[(0, .sl 9)]⟩,1,F⟩
def pz(F:List zC->Option (List zC)):Con I:=⟨31,⟨[.sl 39],[]⟩,[],⟨[.sl 39],[]⟩,0,F⟩
def O3(F:ZN×zC×Int->Option (ZN×Int)):Con I:=⟨16,⟨[.val 25, .val 39, .int .i64],[]⟩,[],⟨[.val 25, .int .i64],[]⟩,0,F⟩
def zoD(F:List zx×List zx->Option Bool):Con I:=⟨123,⟨[.sl 72, .sl 72],[]⟩,[],⟨[.bool],[]⟩,0,F⟩
def gX(F:zg×zg->Option Bool):Con I:=⟨64,⟨[.val 68, .val 68],[]⟩,[],⟨[.bool],[]⟩,0,F⟩
def Xq(F:List zg×List zg->Option Bool):Con I:=⟨32,⟨[.sl 68, .sl 68],[]⟩,[],⟨[.bool],[]⟩,0,F⟩
def zCH(F:List Za×List Za->Option Bool):Con I:=⟨33,⟨[.sl 33, .sl 33],[]⟩,[],⟨[.bool],[]⟩,0,F⟩
def zq6(F:List (List Str)×List (List Str)->Option Bool):Con I:=⟨35,⟨[.sl 59, .sl 59],[]⟩,[],⟨[.bool],[]⟩,0,F⟩
def zCJ(F:List zC×List zC->Option Bool):Con I:=⟨19,⟨[.sl 39, .sl 39],[]⟩,[],⟨[.bool],[]⟩,0,F⟩
def ku(F:zC×zC->Option Bool):Con I:=⟨18,⟨[.val 39, .val 39],[]⟩,[],⟨[.bool],[]⟩,0,F⟩
def R3(F:ZN×Int->Option (ZN×Int)):Con I:=⟨20,⟨[.val 25, .int .i64],[]⟩,[],⟨[.val 25, .int .i64],[]⟩,0,F⟩
def VQ(F:ZN×zC×Int->Option Bool):Con I:=⟨4,⟨[.val 25, .val 39, .int .i64],[]⟩,[],⟨[.bool],[]⟩,0,F⟩
def l9(F:List ze->Option (List zk)):Con I:=⟨150,⟨[.nilv, .sl 135],[]⟩,[],⟨[.sl 131],[]⟩,0,F⟩
def zKl(F:Str->Option (Str×Int)):Con I:=⟨134,⟨[.str],[]⟩,[],⟨[.str, .int .i64],[]⟩,0,F⟩
theorem zJe:zf Tryz.prog (zKl vD):=zIu
def zHR(F:Str×Int->Option Int):Con I:=⟨145,⟨[.str, .int .u8],[]⟩,[],⟨[.int .i64],[]⟩,0,F⟩
theorem zHi:zf Tryz.prog (zHR fE):=zG5
def zKn(F:Str×Str->Option Int):Con I:=⟨182,⟨[.str, .str],[]⟩,[],⟨[.int .i64],[]⟩,0,F⟩
theorem rE:zf Tryz.prog (zKn Dn):=zIw
def zKp(F:Str×Str->Option Str):Con I:=⟨286,⟨[.str, .str],[]⟩,[],⟨[.str],[]⟩,0,F⟩
theorem zJh:zf Tryz.prog (zKp mD):=zIy
def zKq(F:Str×Str->Option Str):Con I:=⟨365,⟨[.str, .str],[]⟩,[],⟨[.str],[]⟩,0,F⟩
theorem wV:zf Tryz.prog (zKq Xn):=zIz
def zEz(F:Str×Str->Option Int):Con I:=⟨287,⟨[.str, .str],[]⟩,[],⟨[.int .i64],[]⟩,0,F⟩
theorem zDH:zf Tryz.prog (zEz UF):=zDi
def zNv(F:Str×Str->Option (Str×Str×Bool)):Con I:=⟨288,⟨[.str, .str],[]⟩,[],⟨[.str, .str, .bool],[]⟩,0,F⟩
theorem zM1:zf Tryz.prog (zNv cutF):=zMJ
def zHQ(F:Int×Int->Option Str):Con I:=⟨303,⟨[.int .i64, .int .i64],[]⟩,[],⟨[.str],[]⟩,0,F⟩
theorem eF:zf Tryz.prog (zHQ Ko):=zG4
def zGJ(F:(Int×Int)×List UInt8->Option (List UInt8)):Con I:=⟨306,⟨[.own 0, .int .u64, .int .i64],[(0, .sl 5)]⟩,[],⟨[.own 1],[(1, .sl 5)]⟩,1,F⟩
theorem zFg:zf Tryz.prog (zGJ nE):=zE2
def zGI(F:(Int×Int)×List UInt8->Option (List UInt8)):Con I:=⟨364,⟨[.own 0, .int .i64, .int .i64],[(0, .sl 5)]⟩,[],⟨[.own 1],[(1, .sl 5)]⟩,1,F⟩
theorem mM:zf Tryz.prog (zGI yw):=zE1
def zKo(F:List zk->Option (List ze×Int)):Con I:=⟨39,⟨[.sl 131],[]⟩,[],⟨[.sl 135, .int .i64],[]⟩,0,F⟩
theorem xV:zf Tryz.prog (zKo parseF):=zIx
def zMb(F:List Str×Str->Option Str):Con I:=⟨36,⟨[.sl 9, .str],[]⟩,[],⟨[.str],[]⟩,0,F⟩
theorem Mx:zf Tryz.prog (zMb Rl):=zKS
def zHO(F:List zk->Option (VAnb×Int)):Con I:=⟨405,⟨[.sl 131],[]⟩,[],⟨[.val 70, .int .i64],[]⟩,0,F⟩
theorem zHh:zf Tryz.prog (zHO VU):=zf.none (by kernel_rfl)
def zKm(F:Bool->Option Bool):Con I:=⟨125,⟨[.optr 0],[(0, .cells 126 [.nop 0 126 3, .nilv, .bool])]⟩,[],⟨[],[(0, .cells 126 [.nop 0 126 3, .nilv, .bool])]⟩,0,F⟩
theorem zJf:zf Tryz.prog (zKm TK):=zIv
def zMa(F:Bool×List UInt8->Option Bool):Con I:=⟨125,⟨[.optr 0],[(0, .cells 126 [.nop 0 126 3, .own 1, .bool]),(1, .sl 5)]⟩,[1],⟨[],[(0, .cells 126 [.nop 0 126 3, .own 1, .bool])]⟩,0,F⟩
theorem zLf:zf Tryz.prog (zMa LJ):=zKR
def zNx(F:Bool×List UInt8->Option Str):Con I:=⟨68,⟨[.optr 0],[(0, .cells 126 [.nop 0 126 3, .own 1, .bool]),(1, .sl 5)]⟩,[],⟨[.str],[]⟩,0,F⟩
theorem zM3:zf Tryz.prog (zNx strW):=zML
def zL9(F:List UInt8->Option Unit):Con I:=⟨125,⟨[.optr 0],[(0, .cells 218 [.nop 0 218 2, .own 1]),(1, .sl 5)]⟩,[1],⟨[],[(0, .cells 218 [.nop 0 218 2, .own 1])]⟩,0,F⟩
theorem rU:zf Tryz.prog (zL9 copyV):=zKQ
def zNw(F:List UInt8->Option Str):Con I:=⟨68,⟨[.optr 0],[(0, .cells 218 [.nop 0 218 2, .own 1]),(1, .sl 5)]⟩,[],⟨[.str],[]⟩,0,F⟩
theorem zM2:zf Tryz.prog (zNw strV):=zMK
theorem zBP(Di:List zg×Int->Option Int)(hs:zf Tryz.prog (yz Di)):zf Tryz.prog (yz (Oq Di)):=
 okC Tryz.f103 (memC hs zu) (cuts:=[(3,⟨[5,6],⟨[.int .i64, .int .i64],[]⟩,[0,1,4],[],[],0,[5],⟨[.int .i64],[]⟩,[]⟩),(7,⟨[5,7],⟨[.int .i64, .int .i64],[]⟩,[6],[],[],2,[5],⟨[.int .i64],[]⟩,[]⟩),(12,⟨[5,9],⟨[.int .i64, .int .i64],[]⟩,[7,8],[],[],4,[5],⟨[.int .i64],[]⟩,[]⟩)])
theorem zBl:zf Tryz.prog (yz Di):=recC (yz Di) (Oq) (fun S h=>zBP S h)
theorem dZ:zf Tryz.prog (jX Nz):=
 okC Tryz.f53 (memC zBl zu)
theorem zBN(Ei:List ze×Int->Option Int)(hs:zf Tryz.prog (AA Ei)):zf Tryz.prog (AA (Sq Ei)):=
 okC Tryz.f104 (memC hs zu) (cuts:=[(3,⟨[5,6],⟨[.int .i64, .int .i64],[]⟩,[0,1,4],[],[],0,[5],⟨[.int .i64],[]⟩,[]⟩)])
theorem zBh:zf Tryz.prog (AA Ei):=recC (AA Ei) (Sq) (fun S h=>zBN S h)
theorem tH:zf Tryz.prog (R4 Tq):=
 okC Tryz.f159 zu (joins:=[(6,⟨[6],⟨[.bool],[]⟩,[3],[],[],0,[],⟨[],[]⟩,[]⟩)])
theorem zBL(Qg:List ze->Option Int)(hs:zf Tryz.prog (EA Qg)):zf Tryz.prog (EA (OA Qg)):=
 okC Tryz.f105 (memC tH (memC hs zu)) (cuts:=[(3,⟨[3,4],⟨[.int .i64, .int .i64],[]⟩,[0,2],[],[],0,[3],⟨[.int .i64],[]⟩,[]⟩)]) (joins:=[(4,⟨[3,4],⟨[.int .i64, .int .i64],[]⟩,[],[],[],0,[],⟨[],[]⟩,[]⟩)])
theorem jA:zf Tryz.prog (EA Qg):=recC (EA Qg) (OA) (fun S h=>zBL S h)
theorem IP:zf Tryz.prog (rX Dq):=
 okC Tryz.f54 (memC zBh (memC jA zu)) (cuts:=[(5,⟨[3,4],⟨[.int .i64, .int .i64],[]⟩,[0],[],[],0,[],⟨[],[]⟩,[]⟩)])
theorem zBS(Qh:zm×Int->Option Int)(hs:zf Tryz.prog (vz Qh)):zf Tryz.prog (vz (Nq Qh)):=
 okC Tryz.f106 (memC hs zu) (cuts:=[(3,⟨[5,6],⟨[.int .i64, .int .i64],[]⟩,[1,2,4],[0],[],0,[5],⟨[.int .i64],[]⟩,[]⟩)])
theorem iN:zf Tryz.prog (vz Qh):=recC (vz Qh) (Nq) (fun S h=>zBS S h)
theorem zBT(Ci:zm->Option Bool)(hs:zf Tryz.prog (uz Ci)):zf Tryz.prog (uz (Mq Ci)):=
 okC Tryz.f107 (memC IP (memC hs zu)) (fz:=[(1,[2])]) (cuts:=[(4,⟨[3],⟨[.int .i64],[]⟩,[1],[0],[],0,[],⟨[],[]⟩,[]⟩)])
theorem zBm:zf Tryz.prog (uz Ci):=recC (uz Ci) (Mq) (fun S h=>zBT S h)
theorem YZ:zf Tryz.prog (aX Iz):=
 okC Tryz.f55 (memC iN (memC zBm zu))
theorem I9(qH:List zC×Int->Option Bool)(hs:zf Tryz.prog (vB qH)):zf Tryz.prog (vB (lq qH)):=
 okC Tryz.f28 (memC dZ (memC IP (memC YZ (memC hs zu)))) (cuts:=[(4,⟨[5],⟨[.int .i64],[]⟩,[0,1],[],[],0,[],⟨[],[]⟩,[]⟩),(10,⟨[7],⟨[.int .i64],[]⟩,[5,6],[0],[],2,[],⟨[],[]⟩,[]⟩)])
theorem zs8:zf Tryz.prog (vB qH):=recC (vB qH) (lq) (fun S h=>I9 S h)
theorem D8(qN:List zC->Option Int)(hs:zf Tryz.prog (YB qN)):zf Tryz.prog (YB (gB qN)):=
 okC Tryz.f17 (memC hs zu) (cuts:=[(3,⟨[3,4],⟨[.int .i64, .int .i64],[]⟩,[0,2],[],[],0,[3],⟨[.int .i64],[]⟩,[]⟩)])
theorem rH:zf Tryz.prog (YB qN):=recC (YB qN) (gB) (fun S h=>D8 S h)
theorem WZ:zf Tryz.prog (VX Iu):=
 okC Tryz.f12 (memC zs8 (memC rH zu))
theorem CP:zf Tryz.prog (bX Ku):=
 okC Tryz.f224 zu (cuts:=[(2,⟨[5],⟨[.int .i64],[]⟩,[0,1],[],[],0,[],⟨[],[]⟩,[]⟩)])
theorem YH:zf Tryz.prog (iX Mm):=
 okC Tryz.f168 (memC CP zu)
theorem bH:zf Tryz.prog (mW Sm):=
 okC Tryz.f265 zu
theorem NB:zf Tryz.prog (nW QK):=
 okC Tryz.f215 (memC bH zu) (cuts:=[(3,⟨[4],⟨[.int .i64],[(0, .sl 5)]⟩,[2,3],[],[0],0,[],⟨[],[(0, .sl 5)]⟩,[0]⟩)])
theorem EP:zf Tryz.prog (eX Lu):=
 okC Tryz.f297 (memC YH (memC NB zu))
theorem RP:zf Tryz.prog (K4 Rq):=
 okC Tryz.f171 zu (exS:=⟨[.optr 0],[(0, .row 212)]⟩)
theorem VY:zf Tryz.prog (mX Pz):=
 okC Tryz.f329 zu
theorem bZ:zf Tryz.prog (dX Jz):=
 okC Tryz.f351 zu (exS:=⟨[.optr 0, .bool],[(0, .row 252)]⟩)
theorem X6(Zp:zg×zX×Bool->Option Bool)(h_ref08_whole:zf Tryz.prog (dm Zp)):zf Tryz.prog (J4 (Pq Zp)):=
 okC Tryz.f330 (memC bZ (memC h_ref08_whole zu)) (cuts:=[(5,⟨[9],⟨[.int .i64],[]⟩,[0,2,7],[1],[],0,[],⟨[],[]⟩,[]⟩)])
theorem V6(Zp:zg×zX×Bool->Option Bool)(h_ref08_whole:zf Tryz.prog (dm Zp)):zf Tryz.prog (I4 (Yu Zp)):=
 okC Tryz.f298 (memC RP (memC YH (memC EP (memC CP (memC VY (memC (X6 Zp h_ref08_whole) zu)))))) (joins:=[(5,⟨[11],⟨[.bool],[]⟩,[2,3,5,10],[0,1,2],[],0,[],⟨[],[]⟩,[]⟩),(14,⟨[84],⟨[.bool],[]⟩,[],[],[],0,[],⟨[],[]⟩,[]⟩),(17,⟨[101],⟨[.bool],[]⟩,[],[],[],0,[],⟨[],[]⟩,[]⟩),(24,⟨[138],⟨[.bool],[]⟩,[],[],[],0,[],⟨[],[]⟩,[]⟩),(27,⟨[154],⟨[.bool],[]⟩,[],[],[],0,[],⟨[],[]⟩,[]⟩)])
theorem zrB(Zp:zg×zX×Bool->Option Bool)(h_ref08_whole:zf Tryz.prog (dm Zp)):zf Tryz.prog (zsF (xu Zp)):=
 okC Tryz.f264 (memC EP (memC (V6 Zp h_ref08_whole) zu)) (cuts:=[(4,⟨[5],⟨[.int .i64],[]⟩,[2,3],[0,1],[],0,[],⟨[],[]⟩,[]⟩)])
theorem SY(Zp:zg×zX×Bool->Option Bool)(hs:zf Tryz.prog (dm Zp)):zf Tryz.prog (dm (bA Zp)):=
 okC Tryz.f214 (memC (zrB Zp hs) zu) (cuts:=[(4,⟨[7],⟨[.int .i64],[]⟩,[3,4],[0,1],[],0,[],⟨[],[]⟩,[]⟩)])
theorem aZ:zf Tryz.prog (dm Zp):=recC (dm Zp) (bA) (fun S h=>SY S h)
theorem zBj:zf Tryz.prog (zCI Ty):=
 okC Tryz.f160 (memC aZ zu) (cuts:=[(2,⟨[3],⟨[.int .i64],[]⟩,[0],[],[],0,[],⟨[],[]⟩,[]⟩)])
theorem I7(Q7:List zg->Option Int)(hs:zf Tryz.prog (aB Q7)):zf Tryz.prog (aB (iB Q7)):=
 okC Tryz.f161 (memC hs zu) (cuts:=[(3,⟨[3,4],⟨[.int .i64, .int .i64],[]⟩,[0,2],[],[],0,[3],⟨[.int .i64],[]⟩,[]⟩),(6,⟨[3,5],⟨[.int .i64, .int .i64],[]⟩,[4],[],[],2,[3],⟨[.int .i64],[]⟩,[]⟩),(10,⟨[3,7],⟨[.int .i64, .int .i64],[]⟩,[5,6],[],[],4,[3],⟨[.int .i64],[]⟩,[]⟩)])
theorem Y6:zf Tryz.prog (aB Q7):=recC (aB Q7) (iB) (fun S h=>I7 S h)
theorem fZ:zf Tryz.prog (lX Oz):=
 okC Tryz.f108 (memC zBj (memC Y6 zu))
theorem zBM(Si:List ze×List ze->Option Bool)(hs:zf Tryz.prog (BA Si)):zf Tryz.prog (BA (au Si)):=
 okC Tryz.f124 (memC hs zu) (cuts:=[(4,⟨[5],⟨[.int .i64],[]⟩,[0,1],[],[],0,[],⟨[],[]⟩,[]⟩)])
theorem zBg:zf Tryz.prog (BA Si):=recC (BA Si) (au) (fun S h=>zBM S h)
theorem FP:zf Tryz.prog (nX Al):=
 okC Tryz.f65 (memC zBg zu)
theorem zBR(QZ:zm×zm->Option Bool)(hs:zf Tryz.prog (wz QZ)):zf Tryz.prog (wz (Xu QZ)):=
 okC Tryz.f34 (memC FP (memC hs zu)) (cuts:=[(4,⟨[5],⟨[.int .i64],[]⟩,[2,3],[0,1],[],0,[],⟨[],[]⟩,[]⟩)])
theorem jN:zf Tryz.prog (wz QZ):=recC (wz QZ) (Xu) (fun S h=>zBR S h)
theorem zBo:zf Tryz.prog (zCK Wp):=
 okC Tryz.f109 (memC jN zu)
theorem WY:zf Tryz.prog (pX Sz):=
 okC Tryz.f162 (memC NB zu) (cuts:=[(4,⟨[3],⟨[.int .i64],[]⟩,[0],[],[],0,[],⟨[],[]⟩,[]⟩)])
theorem K7(Qz:List ze->Option (List zk))(hs:zf Tryz.prog (cB Qz)):zf Tryz.prog (cB (LB Qz)):=
 okC Tryz.f218 (memC tH (memC hs zu)) (fz:=[(5,[6]),(9,[3])]) (cuts:=[(3,⟨[3,4],⟨[.own 1001, .int .i64],[(1001, .sl 131)]⟩,[0,2],[],[],0,[3],⟨[.own 1001],[(1001, .sl 131)]⟩,[1001]⟩)]) (joins:=[(4,⟨[3,4],⟨[.own 1103, .int .i64],[(1103, .sl 131)]⟩,[],[],[],0,[],⟨[],[]⟩,[]⟩)])
theorem VP:zf Tryz.prog (cB Qz):=recC (cB Qz) (LB) (fun S h=>K7 S h)
theorem J7(Q6:List ze×Int->Option Bool)(hs:zf Tryz.prog (bB Q6)):zf Tryz.prog (bB (JB Q6)):=
 okC Tryz.f266 (memC tH (memC hs zu)) (cuts:=[(2,⟨[5],⟨[.int .i64],[]⟩,[0,1],[],[],0,[],⟨[],[]⟩,[]⟩)])
theorem A7:zf Tryz.prog (bB Q6):=recC (bB Q6) (JB) (fun S h=>J7 S h)
theorem XY:zf Tryz.prog (uX Tz):=
 okC Tryz.f216 (memC jA (memC VP (memC A7 zu)))
theorem YY:zf Tryz.prog (vX Pm):=
 okC Tryz.f299 zu (cuts:=[(2,⟨[3],⟨[.int .i64],[]⟩,[0],[],[],0,[],⟨[],[]⟩,[]⟩)])
theorem Wm:zf Tryz.prog (lW ZT):=
 okC Tryz.f331 zu
theorem zBe:zf Tryz.prog (zCF Vy):=
 okC Tryz.f300 (memC Wm zu)
theorem MB:zf Tryz.prog (yX aj):=
 okC Tryz.f352 zu
theorem Vi:zf Tryz.prog (zGL Zw):=
 okC Tryz.f382 zu
theorem uH:zf Tryz.prog (U4 Vm):=
 okC Tryz.f353 (memC Vi (memC MB zu)) (cuts:=[(1,⟨[1],⟨[.int .i64],[]⟩,[0,4],[],[],0,[1],⟨[.int .i64],[]⟩,[]⟩)])
theorem lN:zf Tryz.prog (zCC Xy):=
 okC Tryz.f406 zu (fz:=[(1,[0])])
theorem zDL:zf Tryz.prog (zEC Im):=
 okC Tryz.f407 (memC Wm (memC bH zu))
theorem zBb:zf Tryz.prog (zCB CG):=
 okC Tryz.f408 (memC lN zu) (fz:=[(4,[2]),(6,[8]),(8,[13]),(9,[18])])
theorem VC:zf Tryz.prog (d9 Ym):=
 okC Tryz.f383 (memC lN (memC zDL (memC Vi (memC MB (memC zBb zu))))) (cuts:=[(7,⟨[6,7],⟨[.int .i64, .int .i64],[]⟩,[0,1,4,5],[],[],0,[6,7],⟨[.int .i64, .int .i64],[]⟩,[]⟩)]) (joins:=[(12,⟨[7],⟨[.int .i64],[]⟩,[6],[],[],0,[],⟨[],[]⟩,[]⟩)])
theorem D7:zf Tryz.prog (V4 RA):=
 okC Tryz.f354 (memC VC zu) (cuts:=[(4,⟨[1],⟨[.int .i64],[(0, .row 131),(1, .row 131)]⟩,[0,4,6,7],[],[0,1],0,[1],⟨[.int .i64],[(0, .row 131),(1, .row 131)]⟩,[0,1]⟩)]) (exS:=⟨[.optr 0, .int .i64],[(0, .row 131)]⟩)
theorem WP:zf Tryz.prog (Y4 SA):=
 okC Tryz.f384 (memC bH zu)
theorem YP:zf Tryz.prog (E5 bu):=
 okC Tryz.f355 (memC WP (memC Wm zu))
theorem Fv:zf Tryz.prog (G5 Qe):=
 okC Tryz.f356 (memC Vi zu)
theorem aH:zf Tryz.prog (AY Rm):=
 okC Tryz.f357 (memC YP (memC Fv (memC VC zu))) (cuts:=[(2,⟨[1,6],⟨[.int .i64, .str],[]⟩,[0],[],[],0,[],⟨[],[]⟩,[]⟩)])
theorem XP:zf Tryz.prog (D5 Q5):=
 okC Tryz.f358 (memC Vi (memC WP (memC Fv zu)))
theorem zrA:zf Tryz.prog (zsE WH):=
 okC Tryz.f359 (memC Vi (memC Wm zu)) (joins:=[(4,⟨[1],⟨[.int .i64],[]⟩,[0],[],[],0,[],⟨[],[]⟩,[]⟩),(6,⟨[1],⟨[.int .i64],[]⟩,[],[],[],0,[],⟨[],[]⟩,[]⟩)])
theorem F7:zf Tryz.prog (X4 Uq):=
 okC Tryz.f409 (memC Vi (memC Wm zu)) (cuts:=[(1,⟨[1],⟨[.int .i64],[]⟩,[0,4],[],[],0,[1],⟨[.int .i64],[]⟩,[]⟩)])
theorem zqc:zf Tryz.prog (zq4 FC):=
 okC Tryz.f385 (memC Vi (memC F7 (memC Wm zu))) (joins:=[(4,⟨[1],⟨[.int .i64],[]⟩,[0],[],[],0,[],⟨[],[]⟩,[]⟩),(9,⟨[1,7],⟨[.int .i64, .bool],[]⟩,[],[],[],0,[],⟨[],[]⟩,[]⟩),(15,⟨[1,7,9],⟨[.int .i64, .bool, .int .i64],[]⟩,[],[],[],0,[],⟨[],[]⟩,[]⟩),(18,⟨[1,7],⟨[.int .i64, .bool],[]⟩,[],[],[],0,[],⟨[],[]⟩,[]⟩)])
theorem znF:zf Tryz.prog (zoB oC):=
 okC Tryz.f386 (memC Vi (memC Wm zu)) (cuts:=[(5,⟨[3,5],⟨[.str, .int .i64],[]⟩,[4],[],[],0,[3,5],⟨[.str, .int .i64],[]⟩,[]⟩),(10,⟨[3,4,5],⟨[.str, .int .i64, .int .i64],[]⟩,[],[],[],2,[3,4,5],⟨[.str, .int .i64, .int .i64],[]⟩,[]⟩),(20,⟨[5,8],⟨[.int .i64, .int .i64],[]⟩,[4],[],[],4,[8],⟨[.int .i64],[]⟩,[]⟩),(28,⟨[9,10],⟨[.int .i64, .int .i64],[]⟩,[4],[],[],6,[9],⟨[.int .i64],[]⟩,[]⟩),(31,⟨[4,9],⟨[.int .i64, .int .i64],[]⟩,[],[],[],8,[9],⟨[.int .i64],[]⟩,[]⟩)]) (joins:=[(5,⟨[3,4,5],⟨[.str, .int .i64, .int .i64],[]⟩,[0,6],[],[],0,[],⟨[],[]⟩,[]⟩),(14,⟨[3,4,5],⟨[.str, .int .i64, .int .i64],[]⟩,[],[],[],0,[],⟨[],[]⟩,[]⟩),(19,⟨[4,5],⟨[.int .i64, .int .i64],[]⟩,[3,7],[],[],0,[],⟨[],[]⟩,[]⟩),(25,⟨[4,8],⟨[.int .i64, .int .i64],[]⟩,[],[],[],0,[],⟨[],[]⟩,[]⟩),(26,⟨[4],⟨[.int .i64],[]⟩,[3],[],[],0,[],⟨[],[]⟩,[]⟩)])
theorem zs5:zf Tryz.prog (zt0 fA):=
 okC Tryz.f360 (memC zqc (memC znF (memC XP (memC aH (memC Vi zu))))) (joins:=[(9,⟨[6],⟨[.int .i64],[(0, .row 131),(1, .row 131)]⟩,[4,8],[],[0,1],0,[],⟨[],[]⟩,[]⟩)]) (exS:=⟨[.optr 0, .int .i64],[(0, .row 131)]⟩)
theorem zDO:zf Tryz.prog (zEF Lt):=
 okC Tryz.f361 zu
theorem KP:zf Tryz.prog (oW sj):=
 okC Tryz.f268 (memC NB zu)
theorem zDN:zf Tryz.prog (zEE Mt):=
 okC Tryz.f410 (memC Fv (memC VC zu)) (cuts:=[(1,⟨[1],⟨[.int .i64],[]⟩,[0,4,5],[0],[],0,[1],⟨[.int .i64],[]⟩,[]⟩)]) (exS:=⟨[.optr 0, .int .i64],[(0, .row 131)]⟩)
theorem znG:zf Tryz.prog (zoC KI):=
 okC Tryz.f411 zu
theorem zDP:zf Tryz.prog (zEG Wx):=
 okC Tryz.f387 (memC uH (memC MB (memC zDN (memC znG (memC Fv (memC VC zu)))))) (cuts:=[(3,⟨[1],⟨[.int .i64],[(0, .row 131),(1, .row 131)]⟩,[0,4,6],[],[0,1],0,[1],⟨[.int .i64],[(0, .row 131),(1, .row 131)]⟩,[0,1]⟩)]) (exS:=⟨[.optr 0, .int .i64],[(0, .row 131)]⟩)
theorem zBd:zf Tryz.prog (zCE Wy):=
 okC Tryz.f362 (memC aH (memC Vi (memC KP (memC uH (memC zDP zu))))) (joins:=[(8,⟨[],⟨[],[(0, .row 131)]⟩,[4,6,7],[],[0],0,[],⟨[],[]⟩,[]⟩)]) (exS:=⟨[.optr 0, .int .i64],[(0, .row 131)]⟩)
theorem zBc:zf Tryz.prog (zCD Cu):=
 okC Tryz.f363 zu
theorem zDM:zf Tryz.prog (zED Xx):=
 okC Tryz.f332 (memC MB (memC uH (memC D7 (memC YP (memC Fv (memC aH (memC XP (memC zrA (memC zs5 (memC zDO (memC zBd (memC zBc zu)))))))))))) (exS:=⟨[.optr 0, .int .i64],[(0, .row 131)]⟩)
theorem aY:zf Tryz.prog (wX Ui):=
 okC Tryz.f301 (memC zDM zu) (fz:=[(1,[1])])
theorem zBf:zf Tryz.prog (zCG Uy):=
 okC Tryz.f267 (memC YY (memC zBe (memC aY zu))) (joins:=[(6,⟨[8],⟨[.bool],[(1, .row 131)]⟩,[1,3,7],[0],[1],0,[],⟨[],[]⟩,[]⟩),(13,⟨[56],⟨[.bool],[(1, .row 131)]⟩,[],[],[1],0,[],⟨[],[]⟩,[]⟩),(21,⟨[90],⟨[.bool],[(1, .row 131)]⟩,[],[],[1],0,[],⟨[],[]⟩,[]⟩),(26,⟨[148],⟨[.bool],[]⟩,[],[1],[],0,[],⟨[],[]⟩,[]⟩)])
theorem bY:zf Tryz.prog (xX Fq):=
 okC Tryz.f217 (memC zBf (memC KP zu)) (cuts:=[(4,⟨[3],⟨[.int .i64],[]⟩,[0],[],[],0,[],⟨[],[]⟩,[]⟩)]) (joins:=[(12,⟨[4],⟨[.int .i64],[]⟩,[3],[],[],0,[],⟨[],[]⟩,[]⟩),(14,⟨[],⟨[],[]⟩,[3],[],[],0,[],⟨[],[]⟩,[]⟩)])
theorem J9(Qu:List ze->Option Bool)(hs:zf Tryz.prog (wB Qu)):zf Tryz.prog (wB (EC Qu)):=
 okC Tryz.f219 (memC hs zu) (cuts:=[(2,⟨[3],⟨[.int .i64],[]⟩,[0],[],[],0,[],⟨[],[]⟩,[]⟩)])
theorem zs7:zf Tryz.prog (wB Qu):=recC (wB Qu) (EC) (fun S h=>J9 S h)
theorem zs6:zf Tryz.prog (zt1 dA):=
 okC Tryz.f220 zu (cuts:=[(1,⟨[0],⟨[.sl 135],[]⟩,[2],[],[],0,[0],⟨[.sl 135],[]⟩,[]⟩),(3,⟨[0],⟨[.sl 135],[]⟩,[2],[],[],2,[0],⟨[.sl 135],[]⟩,[]⟩)])
theorem u6:zf Tryz.prog (O4 NA):=
 okC Tryz.f221 zu
theorem l6:zf Tryz.prog (M4 LA):=
 okC Tryz.f163 (memC XY (memC VP (memC bY (memC zs7 (memC zs6 (memC u6 zu)))))) (cuts:=[(6,⟨[5],⟨[.int .i64],[]⟩,[1],[],[],0,[],⟨[],[]⟩,[]⟩)])
theorem JP:zf Tryz.prog (tX Om):=
 okC Tryz.f110 (memC WY (memC l6 zu))
theorem BP:zf Tryz.prog (YX Cq):=
 okC Tryz.f222 zu
theorem JC:zf Tryz.prog (X3 Q8):=
 okC Tryz.f164 (memC BP zu)
theorem R6:zf Tryz.prog (V3 Wu):=
 okC Tryz.f269 (memC NB zu) (cuts:=[(4,⟨[3],⟨[.int .i64],[]⟩,[0],[],[],0,[],⟨[],[]⟩,[]⟩)])
theorem zFi:zf Tryz.prog (zGM Ps):=
 okC Tryz.f270 zu
theorem zDQ:zf Tryz.prog (zEH Jt):=
 okC Tryz.f223 (memC JC (memC BP (memC R6 (memC zFi zu)))) (cuts:=[(4,⟨[4],⟨[.int .i64],[]⟩,[1],[0],[],0,[],⟨[],[]⟩,[]⟩)]) (joins:=[(5,⟨[4],⟨[.int .i64],[]⟩,[],[],[],0,[],⟨[],[]⟩,[]⟩)])
theorem XZ:zf Tryz.prog (XX Ju):=
 okC Tryz.f165 (memC JC (memC zDQ zu))
theorem U6:zf Tryz.prog (Y3 dz):=
 okC Tryz.f111 (memC JC (memC XZ zu)) (cuts:=[(8,⟨[3],⟨[.int .i64],[]⟩,[1],[0],[],0,[],⟨[],[]⟩,[]⟩)])
theorem zBQ(Ri:zm->Option Int)(hs:zf Tryz.prog (xz Ri)):zf Tryz.prog (xz (gz Ri)):=
 okC Tryz.f166 (memC jA (memC hs zu)) (cuts:=[(7,⟨[3,4],⟨[.int .i64, .int .i64],[]⟩,[1,2],[0],[],0,[3],⟨[.int .i64],[]⟩,[]⟩)]) (joins:=[(13,⟨[3,6],⟨[.int .i64, .int .i64],[]⟩,[4],[],[],0,[],⟨[],[]⟩,[]⟩)])
theorem kN:zf Tryz.prog (xz Ri):=recC (xz Ri) (gz) (fun S h=>zBQ S h)
theorem zqM(qg:zm->Option Bool)(hs:zf Tryz.prog (xC qg)):zf Tryz.prog (xC (ED qg)):=
 okC Tryz.f167 (memC JP (memC JC (memC hs zu))) (cuts:=[(13,⟨[3],⟨[.int .i64],[]⟩,[],[],[],1,[],⟨[],[]⟩,[]⟩)]) (joins:=[(10,⟨[55],⟨[.bool],[]⟩,[1],[0],[],0,[],⟨[],[]⟩,[]⟩)])
theorem zqh:zf Tryz.prog (xC qg):=recC (xC qg) (ED) (fun S h=>zqM S h)
theorem zo1:zf Tryz.prog (zpr SC):=
 okC Tryz.f112 (memC iN (memC kN (memC zqh zu)))
theorem P6:zf Tryz.prog (U3 Kq):=
 okC Tryz.f113 (memC YH zu) (cuts:=[(4,⟨[3],⟨[.int .i64],[]⟩,[0],[],[],0,[],⟨[],[]⟩,[]⟩)])
theorem C8(Q9:zC->Option Bool)(hs:zf Tryz.prog (XB Q9)):zf Tryz.prog (XB (fB Q9)):=
 okC Tryz.f56 (memC fZ (memC zBo (memC JP (memC U6 (memC zo1 (memC P6 (memC hs zu))))))) (cuts:=[(8,⟨[4],⟨[.int .i64],[]⟩,[1],[],[],1,[],⟨[],[]⟩,[]⟩),(26,⟨[5],⟨[.int .i64],[]⟩,[],[],[],3,[],⟨[],[]⟩,[]⟩),(31,⟨[6],⟨[.int .i64],[]⟩,[],[],[],5,[],⟨[],[]⟩,[]⟩)]) (joins:=[(25,⟨[],⟨[],[]⟩,[1],[0],[],0,[],⟨[],[]⟩,[]⟩)])
theorem O6:zf Tryz.prog (XB Q9):=recC (XB Q9) (fB) (fun S h=>C8 S h)
theorem eZ:zf Tryz.prog (kX JG):=
 okC Tryz.f169 zu
theorem zrU(qV:List zg->Option Int)(hs:zf Tryz.prog (jC qV)):zf Tryz.prog (jC (OC qV)):=
 okC Tryz.f114 (memC eZ (memC hs zu)) (cuts:=[(3,⟨[3,4],⟨[.int .i64, .int .i64],[]⟩,[0,2],[],[],0,[3],⟨[.int .i64],[]⟩,[]⟩),(6,⟨[3,5],⟨[.int .i64, .int .i64],[]⟩,[4],[],[],2,[3],⟨[.int .i64],[]⟩,[]⟩),(10,⟨[3,7],⟨[.int .i64, .int .i64],[]⟩,[5,6],[],[],4,[3],⟨[.int .i64],[]⟩,[]⟩)]) (joins:=[(11,⟨[3,7],⟨[.int .i64, .int .i64],[]⟩,[],[],[],0,[],⟨[],[]⟩,[]⟩)])
theorem zrC:zf Tryz.prog (jC qV):=recC (jC qV) (OC) (fun S h=>zrU S h)
theorem znI:zf Tryz.prog (zoE DD):=
 okC Tryz.f115 (memC kN zu) (cuts:=[(5,⟨[3,4],⟨[.int .i64, .int .i64],[]⟩,[1,2],[0],[],0,[3],⟨[.int .i64],[]⟩,[]⟩),(11,⟨[3,6],⟨[.int .i64, .int .i64],[]⟩,[],[1],[],2,[3],⟨[.int .i64],[]⟩,[]⟩)]) (joins:=[(10,⟨[3],⟨[.int .i64],[(1, .row 36)]⟩,[4,5],[],[1],0,[],⟨[],[]⟩,[]⟩),(12,⟨[3,6],⟨[.int .i64, .int .i64],[]⟩,[],[],[],0,[],⟨[],[]⟩,[]⟩)])
theorem zBU(Wj:List zC->Option Int)(hs:zf Tryz.prog (rz Wj)):zf Tryz.prog (rz (cz Wj)):=
 okC Tryz.f57 (memC hs (memC jA (memC zrC (memC znI zu)))) (cuts:=[(3,⟨[3,4],⟨[.int .i64, .int .i64],[]⟩,[0,2],[],[],0,[3],⟨[.int .i64],[]⟩,[]⟩),(8,⟨[5,6],⟨[.int .i64, .int .i64],[]⟩,[3,4],[],[],2,[5],⟨[.int .i64],[]⟩,[]⟩)]) (joins:=[(4,⟨[3,4],⟨[.int .i64, .int .i64],[]⟩,[],[],[],0,[],⟨[],[]⟩,[]⟩)])
theorem zBn:zf Tryz.prog (rz Wj):=recC (rz Wj) (cz) (fun S h=>zBU S h)
theorem VZ:zf Tryz.prog (UX Hz):=
 okC Tryz.f29 (memC rH (memC O6 (memC zBn zu))) (cuts:=[(4,⟨[3],⟨[.int .i64],[]⟩,[0],[],[],0,[],⟨[],[]⟩,[]⟩)])
theorem tO:zf Tryz.prog (WX Bq):=
 okC Tryz.f13 (memC VZ zu)
theorem zqi:zf Tryz.prog (zq5 DC):=
 okC Tryz.f14 (memC tO zu) (fz:=[(1,[1])])
theorem yQ:zf Tryz.prog (zj6 stringslite_HasPrefix):=
 okC Tryz.f154 zu
theorem Zx:zf Tryz.prog (zoK strings_HasPrefix):=
 okC Tryz.f97 (memC yQ zu)
theorem zhI(fu:Nat):zf Tryz.prog (ziy (DJ fu)):=
 okC Tryz.f135 (memC Zx (memC rE zu)) (p:=1) (cuts:=[(0,⟨[],⟨[],[(0, .row 192)]⟩,[0],[],[0],0,[],⟨[],[(0, .row 192)]⟩,[0]⟩)]) (fl:=some fu)
theorem Zf:zf Tryz.prog (zny zF):=
 okC Tryz.f183 zu (p:=1)
theorem Av:zf Tryz.prog (zAb Hq):=
 okC Tryz.f184 zu
theorem FJ(fu:Nat):zf Tryz.prog (zln (Qp fu)):=
 okC Tryz.f185 (memC Zf (memC Av zu)) (p:=1) (cuts:=[(0,⟨[],⟨[],[(0, .row 192)]⟩,[0,1],[],[0],0,[],⟨[],[(0, .row 192)]⟩,[0]⟩)]) (fl:=some fu)
theorem zgq:zf Tryz.prog (zgT KR):=
 okC Tryz.f314 zu (fz:=[(2,[1]),(4,[9]),(7,[14]),(9,[19])]) (joins:=[(7,⟨[25],⟨[.bool],[]⟩,[0,1,5],[],[],0,[],⟨[],[]⟩,[]⟩)])
theorem znO:zf Tryz.prog (zoM OI):=
 okC Tryz.f283 (memC zgq zu) (fz:=[(2,[3])])
theorem IC:zf Tryz.prog (M5 Vu):=
 okC Tryz.f285 zu
theorem Bv:zf Tryz.prog (CY Tm):=
 okC Tryz.f240 (memC IC zu)
theorem FN:zf Tryz.prog (zEI Et):=
 okC Tryz.f284 (memC Bv (memC IC zu))
theorem zhg(fu:Nat):zf Tryz.prog (zhB (wQ fu)):=
 okC Tryz.f238 (memC Zf (memC znO (memC FN (memC Av zu)))) (fz:=[(7,[3])]) (p:=1) (cuts:=[(10,⟨[6,36],⟨[.int .i64, .int .i64],[(0, .row 192)]⟩,[0,1,4],[],[0],0,[6],⟨[.int .i64],[(0, .row 192)]⟩,[0]⟩)]) (joins:=[(17,⟨[6],⟨[.int .i64],[(0, .row 192)]⟩,[1],[],[0],0,[],⟨[],[]⟩,[]⟩),(19,⟨[6],⟨[.int .i64],[]⟩,[],[0],[],0,[],⟨[],[]⟩,[]⟩)]) (fl:=some fu)
theorem zgr:zf Tryz.prog (zgU aR):=
 okC Tryz.f314 zu (fz:=[(2,[1]),(4,[9]),(7,[14]),(9,[19])]) (p:=1) (joins:=[(7,⟨[25],⟨[.bool],[(0, .sl 5)]⟩,[0,1,5],[],[0],0,[],⟨[],[]⟩,[]⟩)])
theorem znP:zf Tryz.prog (zoN NI):=
 okC Tryz.f283 (memC zgr zu) (fz:=[(2,[3])]) (p:=1)
theorem QJ(fu:Nat):zf Tryz.prog (zhC (Qj fu)):=
 okC Tryz.f238 (memC Zf (memC znP (memC FN (memC Av zu)))) (fz:=[(7,[3])]) (p:=2) (cuts:=[(10,⟨[6,36],⟨[.int .i64, .int .i64],[(0, .row 192)]⟩,[0,1,4],[1],[0],0,[6],⟨[.int .i64],[(0, .row 192)]⟩,[0]⟩)]) (joins:=[(17,⟨[6],⟨[.int .i64],[(0, .row 192),(1, .sl 5)]⟩,[1],[],[0,1],0,[],⟨[],[]⟩,[]⟩),(19,⟨[6],⟨[.int .i64],[(1, .sl 5)]⟩,[],[0],[1],0,[],⟨[],[]⟩,[]⟩)]) (fl:=some fu)
theorem zjK(fu:Nat):zf Tryz.prog (zj8 (fQ fu)):=
 okC Tryz.f186 (memC Zf (memC (QJ fu) zu)) (fz:=[(5,[3])]) (p:=1) (cuts:=[(4,⟨[4],⟨[.own 1104],[(0, .row 192),(1, .row 131),(1104, .sl 5)]⟩,[0,2,3],[],[0,1],0,[4],⟨[.own 1104],[(0, .row 192),(1, .row 131),(1104, .sl 5)]⟩,[0,1,1104]⟩)]) (fl:=some fu) (exS:=⟨[.optr 1],[(0, .row 192),(1, .row 131)]⟩)
theorem oO:zf Tryz.prog (zAa Ez):=
 okC Tryz.f239 (memC IC zu)
theorem rP:zf Tryz.prog (O5 nG):=
 okC Tryz.f187 (memC oO (memC Bv zu))
theorem qG:zf Tryz.prog (zlk qc):=
 okC Tryz.f188 (memC Zf zu) (p:=1)
theorem jQ:zf Tryz.prog (znx Gv):=
 okC Tryz.f189 (memC Zf (memC oO (memC qG zu))) (p:=1)
theorem mI(fu:Nat):zf Tryz.prog (zlT (QN fu)):=
 okC Tryz.f190 (memC Zf (memC rP (memC qG (memC (QJ fu) zu)))) (fz:=[(5,[3])]) (p:=1) (cuts:=[(2,⟨[3],⟨[.own 1105],[(0, .row 192),(1105, .sl 5)]⟩,[0],[],[0],0,[],⟨[],[]⟩,[]⟩)]) (fl:=some fu)
theorem zkA:zf Tryz.prog (zlm lQ):=
 okC Tryz.f191 (memC Zf (memC Bv zu)) (p:=1) (joins:=[(5,⟨[3],⟨[.int .i64],[]⟩,[0],[],[],0,[],⟨[],[]⟩,[]⟩),(7,⟨[3],⟨[.int .i64],[]⟩,[],[],[],0,[],⟨[],[]⟩,[]⟩)])
theorem ziU(fu:Nat):zf Tryz.prog (zjh (QQ fu)):=
 okC Tryz.f185 (memC Zf (memC Bv zu)) (p:=1) (cuts:=[(0,⟨[],⟨[],[(0, .row 192)]⟩,[0,1],[],[0],0,[],⟨[],[(0, .row 192)]⟩,[0]⟩)]) (fl:=some fu)
theorem ziS(fu:Nat):zf Tryz.prog (zjf (tQ fu)):=
 okC Tryz.f241 (memC Zf (memC (ziU fu) (memC Bv zu))) (p:=1) (joins:=[(4,⟨[],⟨[],[(0, .row 192)]⟩,[0],[],[0],0,[],⟨[],[]⟩,[]⟩),(10,⟨[4],⟨[.bool],[(0, .row 192)]⟩,[],[],[0],0,[],⟨[],[]⟩,[]⟩),(15,⟨[4,5],⟨[.bool, .int .i64],[(0, .row 192)]⟩,[],[],[0],0,[],⟨[],[]⟩,[]⟩),(19,⟨[4],⟨[.bool],[(0, .row 192)]⟩,[],[],[0],0,[],⟨[],[]⟩,[]⟩)]) (fl:=some fu)
theorem zmH(fu:Nat):zf Tryz.prog (znA (PQ fu)):=
 okC Tryz.f242 (memC zJh (memC zDH (memC zM1 zu))) (cuts:=[(8,⟨[6,31],⟨[.int .i64, .int .i64],[]⟩,[0,2,3,4,5,29,30],[0],[],0,[6],⟨[.int .i64],[]⟩,[]⟩),(22,⟨[12,81],⟨[.int .i64, .int .i64],[]⟩,[4,79,80],[0],[],2,[12],⟨[.int .i64],[]⟩,[]⟩),(26,⟨[4,12],⟨[.int .i64, .int .i64],[]⟩,[],[],[],4,[12],⟨[.int .i64],[]⟩,[]⟩)]) (joins:=[(14,⟨[0,4,6],⟨[.str, .int .i64, .int .i64],[]⟩,[3,5],[],[],0,[],⟨[],[]⟩,[]⟩),(15,⟨[0,4],⟨[.str, .int .i64],[]⟩,[3],[],[],0,[],⟨[],[]⟩,[]⟩),(20,⟨[0,4],⟨[.str, .int .i64],[]⟩,[],[],[],0,[],⟨[],[]⟩,[]⟩),(31,⟨[12],⟨[.int .i64],[]⟩,[],[],[],0,[],⟨[],[]⟩,[]⟩)]) (fl:=some fu)
theorem ziT(fu:Nat):zf Tryz.prog (zjg (sQ fu)):=
 okC Tryz.f192 (memC (ziS fu) (memC (zmH fu) (memC jQ (memC (mI fu) (memC Zf zu))))) (p:=1) (joins:=[(9,⟨[],⟨[],[(0, .row 192),(1, .row 131),(2, .row 131)]⟩,[2,5],[],[0,1,2],0,[],⟨[],[]⟩,[]⟩)]) (fl:=some fu) (exS:=⟨[.optr 1],[(0, .row 192),(1, .row 131)]⟩)
theorem Z0(fu:Nat):zf Tryz.prog (sZ (qd fu)):=
 okC Tryz.f76 zu (cuts:=[(3,⟨[10],⟨[.int .i64],[(0, .sl 5)]⟩,[2,3,8,9],[],[0],0,[],⟨[],[(0, .sl 5)]⟩,[0]⟩)]) (joins:=[(7,⟨[10],⟨[.int .i64],[(0, .sl 5)]⟩,[],[],[0],0,[],⟨[],[]⟩,[]⟩)]) (fl:=some fu)
theorem QI(fu:Nat):zf Tryz.prog (tZ (Q3 fu)):=
 okC Tryz.f211 (memC (Z0 fu) zu) (fl:=some fu)
theorem zmF(fu:Nat):zf Tryz.prog (znw (kC fu)):=
 okC Tryz.f289 (memC Zf (memC qG (memC (zhg fu) zu))) (p:=1) (cuts:=[(1,⟨[],⟨[],[(0, .row 192),(1, .row 131)]⟩,[0,2],[],[0,1],0,[],⟨[],[]⟩,[]⟩)]) (fl:=some fu) (exS:=⟨[.optr 1],[(0, .row 192),(1, .row 131)]⟩)
theorem zmG(fu:Nat):zf Tryz.prog (znz (RQ fu)):=
 okC Tryz.f243 (memC (FJ fu) (memC Zf (memC Av (memC (zmF fu) (memC IC (memC qG (memC (QJ fu) zu))))))) (fz:=[(18,[3])]) (p:=1) (cuts:=[(3,⟨[3],⟨[.own 1106],[(0, .row 192),(1, .row 131),(1106, .sl 5)]⟩,[0,2],[],[0,1],0,[],⟨[],[]⟩,[]⟩)]) (joins:=[(10,⟨[3,4],⟨[.own 1106, .int .i64],[(0, .row 192),(1, .row 131),(1106, .sl 5)]⟩,[],[],[0,1,1106],0,[],⟨[],[]⟩,[]⟩)]) (fl:=some fu) (exS:=⟨[.optr 1],[(0, .row 192),(1, .row 131)]⟩)
theorem zkz(fu:Nat):zf Tryz.prog (zll (mQ fu)):=
 okC Tryz.f193 (memC (mI fu) (memC Zf (memC (QI fu) (memC (FJ fu) (memC (zmG fu) zu))))) (p:=1) (joins:=[(11,⟨[],⟨[],[(0, .row 192),(1, .row 131)]⟩,[2,3],[],[0,1],0,[],⟨[],[]⟩,[]⟩)]) (fl:=some fu) (exS:=⟨[.optr 1],[(0, .row 192),(1, .row 131)]⟩)
theorem Zy:zf Tryz.prog (zoL strings_IndexByte):=
 okC Tryz.f82 (memC zHi zu)
theorem zlA(fu:Nat):zf Tryz.prog (zlS (WQ fu)):=
 okC Tryz.f136 (memC Zf (memC Av (memC (FJ fu) (memC (zjK fu) (memC rP (memC qG (memC jQ (memC (mI fu) (memC zkA (memC (ziT fu) (memC Zx (memC (zkz fu) (memC Zy zu))))))))))))) (p:=1) (fl:=some fu) (exS:=⟨[.optr 1],[(0, .row 192),(1, .row 131)]⟩)
theorem zo8:zf Tryz.prog (zpz sP):=
 okC Tryz.f72 zu (fz:=[(1,[2])]) (p:=2)
theorem P9(fu:Nat):zf Tryz.prog (F8 (tN fu)):=
 okC Tryz.f71 (memC zJe (memC (zhI fu) (memC (zlA fu) (memC zo8 zu)))) (p:=1) (cuts:=[(7,⟨[7],⟨[.int .i64],[(0, .cells 90 [.own 1107]),(1107, .sl 131),(1, .row 192)]⟩,[0,1,6],[],[0,1],0,[],⟨[],[(0, .cells 90 [.own 1107]),(1107, .sl 131),(1, .row 192)]⟩,[0,1,1107]⟩)]) (fl:=some fu)
theorem GI(fu:Nat):zf Tryz.prog (G8 (nu fu)):=
 okC Tryz.f38 (memC (P9 fu) zu) (fl:=some fu)
theorem zBp:zf Tryz.prog (zCL wF):=
 okC Tryz.f75 zu
theorem zly(fu:Nat):zf Tryz.prog (zlQ (YQ fu)):=
 okC Tryz.f194 zu (p:=1) (cuts:=[(2,⟨[8],⟨[.int .i64],[]⟩,[0,1,7],[],[],0,[],⟨[],[]⟩,[]⟩)]) (fl:=some fu)
theorem ziN(fu:Nat):zf Tryz.prog (zja (FR fu)):=
 okC Tryz.f139 (memC (zly fu) zu) (p:=1) (fl:=some fu)
theorem zrI(fu:Nat):zf Tryz.prog (zsM (aO fu)):=
 okC Tryz.f138 (memC (ziN fu) zu) (p:=2) (fl:=some fu)
theorem zhG(fu:Nat):zf Tryz.prog (ziw (CR fu)):=
 okC Tryz.f137 (memC (zrI fu) zu) (p:=2) (cuts:=[(2,⟨[8],⟨[.int .i64],[]⟩,[0,1,7],[],[],0,[],⟨[],[]⟩,[]⟩)]) (fl:=some fu)
theorem l7(fu:Nat):zf Tryz.prog (P5 (rM fu)):=
 okC Tryz.f77 (memC (zhG fu) zu) (p:=1) (fl:=some fu)
theorem fq:zf Tryz.prog (rW yj):=
 okC Tryz.f74 zu (joins:=[(7,⟨[6],⟨[.bool],[]⟩,[0],[],[],0,[],⟨[],[]⟩,[]⟩)])
theorem zBJ(fu:Nat)(Tj:List ze×Int->Option zU)(hs:zf Tryz.prog (IA Tj)):zf Tryz.prog (IA (sG fu Tj)):=
 okC Tryz.f88 (memC fq (memC hs zu)) (cuts:=[(3,⟨[12],⟨[.int .i64],[(1, .row 155)]⟩,[1,4,5,10,11],[0],[1],0,[],⟨[],[(1, .row 155)]⟩,[1]⟩)]) (joins:=[(9,⟨[],⟨[],[(1, .row 155)]⟩,[7,8,12],[2],[1],0,[],⟨[],[]⟩,[]⟩),(12,⟨[12],⟨[.int .i64],[(1, .row 155)]⟩,[],[],[1],0,[],⟨[],[]⟩,[]⟩)]) (fl:=some fu) (exS:=⟨[.optr 0],[(0, .row 155)]⟩)
theorem oN(fu:Nat):zf Tryz.prog (IA (Tj fu)):=Ag (IA (Tj fu)) (sG fu) (fun S h=>zBJ fu S h) fu
theorem Qy(fu:Nat):zf Tryz.prog (wW (Ak fu)):=
 okC Tryz.f87 (memC (oN fu) zu) (fl:=some fu)
theorem qR:zf Tryz.prog (zlL ZE):=
 okC Tryz.f325 zu (p:=1) (exS:=⟨[.optr 1],[(1, .row 131)]⟩)
theorem CJ(fu:Nat):zf Tryz.prog (zi7 (ZF fu)):=
 okC Tryz.f323 (memC qR zu) (p:=1) (cuts:=[(2,⟨[],⟨[],[(0, .row 363)]⟩,[0,2,3],[],[0],0,[],⟨[],[(0, .row 363)]⟩,[0]⟩)]) (fl:=some fu)
theorem nI:zf Tryz.prog (zlI QL):=
 okC Tryz.f326 (memC qR zu) (p:=1)
theorem zkv(fu:Nat):zf Tryz.prog (zlf (XI fu)):=
 okC Tryz.f324 (memC nI (memC (CJ fu) zu)) (p:=1) (cuts:=[(2,⟨[4],⟨[.int .i64],[(0, .row 363)]⟩,[0],[],[0],0,[],⟨[],[(0, .row 363)]⟩,[0]⟩)]) (fl:=some fu)
theorem zls:zf Tryz.prog (zlK bI):=
 okC Tryz.f348 zu (p:=1)
theorem JR:zf Tryz.prog (zlJ QM):=
 okC Tryz.f328 zu (p:=1)
theorem Y9(fu:Nat):zf Tryz.prog (zt4 (xN fu)):=
 okC Tryz.f347 (memC (CJ fu) (memC qR (memC (Z0 fu) (memC JR (memC nI (memC rE (memC (QI fu) zu))))))) (joins:=[(20,⟨[],⟨[],[(0, .cells 72 [.int .u8, .str, .int .u8, .str, .bool, .int .i64, .int .i64, .bool, .nilv]),(1, .row 363),(2, .cells 72 [.int .u8, .str, .int .u8, .str, .bool, .int .i64, .int .i64, .bool, .nilv])]⟩,[2,4,5],[],[0,1,2],0,[],⟨[],[]⟩,[]⟩)]) (fl:=some fu) (exS:=⟨[.optr 0, .bool],[(0, .row 72)]⟩)
theorem xH:zf Tryz.prog (zt7 WA):=
 okC Tryz.f272 zu (fz:=[(1,[0])])
theorem GJ(fu:Nat):zf Tryz.prog (zlj (FD fu)):=
 okC Tryz.f296 zu (cuts:=[(2,⟨[8],⟨[.int .i64],[]⟩,[0,1,7],[],[],0,[],⟨[],[]⟩,[]⟩)]) (fl:=some fu)
theorem V9(fu:Nat):zf Tryz.prog (zt9 (wN fu)):=
 okC Tryz.f349 (memC (Z0 fu) (memC xH (memC (GJ fu) zu))) (fl:=some fu) (exS:=⟨[.optr 0, .bool],[(0, .row 72)]⟩)
theorem zrD(fu:Nat):zf Tryz.prog (zsH (dO fu)):=
 okC Tryz.f404 (memC (QI fu) zu) (fl:=some fu)
theorem zgm(fu:Nat):zf Tryz.prog (zgO (PR fu)):=
 okC Tryz.f137 (memC (zrD fu) zu) (cuts:=[(2,⟨[8],⟨[.int .i64],[]⟩,[0,1,7],[],[],0,[],⟨[],[]⟩,[]⟩)]) (fl:=some fu)
theorem KD:zf Tryz.prog (zpv Ql):=
 okC Tryz.f255 zu (exS:=⟨[.optr 0, .bool],[(0, .row 151)]⟩)
theorem M7(fu:Nat)(Kl:List ze×List zk->Option (List zk))(hs:zf Tryz.prog (dB Kl)):zf Tryz.prog (dB (fH fu Kl)):=
 okC Tryz.f150 (memC fq (memC hs zu)) (fz:=[(4,[3]),(7,[6])]) (p:=1) (cuts:=[(2,⟨[0,10],⟨[.own 1109, .int .i64],[(1109, .sl 131)]⟩,[4,8,9],[],[],0,[0],⟨[.own 1109],[(1109, .sl 131)]⟩,[1109]⟩)]) (joins:=[(8,⟨[0,10],⟨[.own 1211, .int .i64],[(1211, .sl 131)]⟩,[],[],[],0,[],⟨[],[]⟩,[]⟩)]) (fl:=some fu)
theorem G7(fu:Nat):zf Tryz.prog (dB (Kl fu)):=Ag (dB (Kl fu)) (fH fu) (fun S h=>M7 fu S h) fu
theorem aP(fu:Nat):zf Tryz.prog (H5 (TA fu)):=
 okC Tryz.f150 (memC fq (memC (G7 fu) zu)) (fz:=[(4,[3]),(7,[6])]) (cuts:=[(2,⟨[0,10],⟨[.own 1213, .int .i64],[(1213, .sl 131)]⟩,[4,8,9],[],[],0,[0],⟨[.own 1213],[(1213, .sl 131)]⟩,[1213]⟩)]) (joins:=[(8,⟨[0,10],⟨[.own 1315, .int .i64],[(1315, .sl 131)]⟩,[],[],[],0,[],⟨[],[]⟩,[]⟩)]) (fl:=some fu)
theorem zs4(fu:Nat):zf Tryz.prog (l9 (TA fu)):=zH1 ipOK (by kernel_rfl) (aP fu)
theorem MO(fu:Nat):zf Tryz.prog (zCy (iF fu)):=
 okC Tryz.f89 (memC (Qy fu) (memC (aP fu) zu)) (fl:=some fu)
theorem oH:zf Tryz.prog (Y2 Um):=
 okC Tryz.f257 (memC Zy zu)
theorem UC:zf Tryz.prog (zt6 Hl):=
 okC Tryz.f253 (memC oH zu)
theorem LQ(fu:Nat):zf Tryz.prog (zsJ (kH fu)):=
 okC Tryz.f205 (memC UC (memC (Z0 fu) zu)) (fl:=some fu)
theorem EQ:zf Tryz.prog (zt5 ou):=
 okC Tryz.f254 zu (joins:=[(4,⟨[6],⟨[.bool],[]⟩,[1,5],[0],[],0,[],⟨[],[]⟩,[]⟩),(7,⟨[11],⟨[.bool],[]⟩,[],[],[],0,[],⟨[],[]⟩,[]⟩),(10,⟨[14],⟨[.bool],[]⟩,[],[],[],0,[],⟨[],[]⟩,[]⟩)])
theorem zA1:zf Tryz.prog (zCe ry):=
 okC Tryz.f294 zu
theorem gG:zf Tryz.prog (zEq Jm):=
 okC Tryz.f258 (memC zA1 zu)
theorem zo6(fu:Nat)(zt:zy×zh->Option Bool)(h_seltext_compoundQ:zf Tryz.prog (Zu zt)):zf Tryz.prog (zpx (uP fu zt)):=
 okC Tryz.f148 (memC h_seltext_compoundQ zu) (p:=1) (fl:=some fu)
theorem zfE(fu:Nat)(zt:zy×zh->Option Bool)(h_seltext_compoundQ:zf Tryz.prog (Zu zt)):zf Tryz.prog (zf1 (XR fu zt)):=
 okC Tryz.f204 (memC (zo6 fu zt h_seltext_compoundQ) zu) (p:=1) (cuts:=[(2,⟨[8],⟨[.int .i64],[]⟩,[0,1,7],[],[],0,[],⟨[],[]⟩,[]⟩)]) (fl:=some fu)
theorem zd1(fu:Nat)(zt:zy×zh->Option Bool)(h_seltext_compoundQ:zf Tryz.prog (Zu zt)):zf Tryz.prog (zef (uR fu zt)):=
 okC Tryz.f147 (memC (zfE fu zt h_seltext_compoundQ) zu) (p:=1) (fl:=some fu)
theorem KQ(fu:Nat)(zt:zy×zh->Option Bool)(h_seltext_compoundQ:zf Tryz.prog (Zu zt)):zf Tryz.prog (zsK (jH fu zt)):=
 okC Tryz.f85 (memC (zd1 fu zt h_seltext_compoundQ) zu) (cuts:=[(4,⟨[38],⟨[.int .i64],[]⟩,[3,4,36,37],[0,1],[],0,[],⟨[],[]⟩,[]⟩)]) (fl:=some fu)
theorem znK(fu:Nat)(zt:zy×zh->Option Bool)(h_seltext_compoundQ:zf Tryz.prog (Zu zt)):zf Tryz.prog (zoG (IQ fu zt)):=
 okC Tryz.f256 (memC (KQ fu zt h_seltext_compoundQ) zu) (p:=2) (fl:=some fu)
theorem zgk(fu:Nat)(zt:zy×zh->Option Bool)(h_seltext_compoundQ:zf Tryz.prog (Zu zt)):zf Tryz.prog (zgM (TR fu zt)):=
 okC Tryz.f146 (memC (znK fu zt h_seltext_compoundQ) zu) (p:=2) (cuts:=[(2,⟨[8],⟨[.int .i64],[]⟩,[0,1,7],[],[],0,[],⟨[],[]⟩,[]⟩)]) (fl:=some fu)
theorem zeo(fu:Nat)(zt:zy×zh->Option Bool)(h_seltext_compoundQ:zf Tryz.prog (Zu zt)):zf Tryz.prog (ze5 (dR fu zt)):=
 okC Tryz.f83 (memC (zgk fu zt h_seltext_compoundQ) zu) (p:=2) (fl:=some fu)
theorem zqp(fu:Nat)(zt:zy×zh->Option Bool)(h_seltext_compoundQ:zf Tryz.prog (Zu zt)):zf Tryz.prog (zq8 (mP fu zt)):=
 okC Tryz.f206 (memC EQ (memC KD (memC (zeo fu zt h_seltext_compoundQ) (memC UC (memC (LQ fu) (memC oH (memC gG zu))))))) (joins:=[(8,⟨[],⟨[],[]⟩,[2],[0],[],0,[],⟨[],[]⟩,[]⟩),(15,⟨[89],⟨[.bool],[]⟩,[10,88],[],[],0,[],⟨[],[]⟩,[]⟩)]) (fl:=some fu)
theorem znS(fu:Nat)(zt:zy×zh->Option Bool)(hs:zf Tryz.prog (Zu zt)):zf Tryz.prog (Zu (dI fu zt)):=
 okC Tryz.f149 (memC (LQ fu) (memC (zqp fu zt hs) zu)) (cuts:=[(4,⟨[30],⟨[.int .i64],[]⟩,[2,3,28,29],[0,1],[],0,[],⟨[],[]⟩,[]⟩)]) (fl:=some fu)
theorem rQ(fu:Nat):zf Tryz.prog (Zu (zt fu)):=Ag (Zu (zt fu)) (dI fu) (fun S h=>znS fu S h) fu
theorem I6(fu:Nat)(zR:List ze×zh×Bool×Bool->Option (List zg×Bool))(h_seltext_partsQ:zf Tryz.prog (qM zR)):zf Tryz.prog (J3 (xM fu zR)):=
 okC Tryz.f381 (memC (zgm fu) (memC KD (memC h_seltext_partsQ (memC (MO fu) (memC zHh zu))))) (joins:=[(8,⟨[1],⟨[.sl 135],[(0, .row 72),(2, .cells 72 [.int .u8, .str, .int .u8, .str, .bool, .int .i64, .int .i64, .bool, .nilv])]⟩,[3,6],[],[0,2],0,[],⟨[],[]⟩,[]⟩)]) (fl:=some fu) (exS:=⟨[.optr 0, .bool],[(0, .row 72)]⟩)
theorem znJ(fu:Nat)(zR:List ze×zh×Bool×Bool->Option (List zg×Bool))(h_seltext_partsQ:zf Tryz.prog (qM zR)):zf Tryz.prog (zoF (JQ fu zR)):=
 okC Tryz.f350 (memC xH (memC (Z0 fu) (memC (GJ fu) (memC (I6 fu zR h_seltext_partsQ) (memC KD (memC h_seltext_partsQ zu)))))) (fl:=some fu) (exS:=⟨[.optr 0, .bool],[(0, .row 72)]⟩)
theorem zhE(fu:Nat)(zR:List ze×zh×Bool×Bool->Option (List zg×Bool))(h_seltext_partsQ:zf Tryz.prog (qM zR)):zf Tryz.prog (ziu (ER fu zR)):=
 okC Tryz.f327 (memC qR (memC zls (memC (Y9 fu) (memC (V9 fu) (memC (znJ fu zR h_seltext_partsQ) zu))))) (fz:=[(24,[2])]) (p:=1) (cuts:=[(2,⟨[6],⟨[.own 1426],[(0, .row 363),(1426, .sl 72)]⟩,[0,3],[1],[0],0,[],⟨[],[]⟩,[]⟩)]) (joins:=[(21,⟨[8],⟨[.bool],[(0, .row 363),(1427, .row 72)]⟩,[6,7],[1426],[0,1427],0,[],⟨[],[]⟩,[]⟩),(22,⟨[6,8],⟨[.own 1426, .bool],[(0, .row 363),(1426, .sl 72),(1427, .row 72)]⟩,[7],[],[0,1426,1427],0,[],⟨[],[]⟩,[]⟩)]) (fl:=some fu)
theorem zmx(fu:Nat)(zR:List ze×zh×Bool×Bool->Option (List zg×Bool))(h_seltext_partsQ:zf Tryz.prog (qM zR)):zf Tryz.prog (znq (TQ fu zR)):=
 okC Tryz.f290 (memC (CJ fu) (memC (zkv fu) (memC qR (memC (Z0 fu) (memC nI (memC (zhE fu zR h_seltext_partsQ) (memC (rQ fu) (memC JR zu)))))))) (fz:=[(19,[3]),(27,[3])]) (cuts:=[(8,⟨[],⟨[],[(1, .cells 68 [.int .u8, .nilv, .nilv]),(2, .row 363),(3, .cells 68 [.int .u8, .own 1427, .own 1428]),(1427, .sl 65),(1428, .sl 5)]⟩,[],[],[1,2,3],0,[],⟨[],[(1, .cells 68 [.int .u8, .nilv, .nilv]),(2, .row 363),(3, .cells 68 [.int .u8, .own 1429, .own 1428]),(1429, .sl 65),(1428, .sl 5)]⟩,[1,2,3,1428]⟩)]) (joins:=[(8,⟨[],⟨[],[(1, .cells 68 [.int .u8, .nilv, .nilv]),(2, .row 363),(3, .cells 68 [.int .u8, .nilv, .nilv])]⟩,[4,6,8,9],[0],[1,2,3],0,[],⟨[],[]⟩,[]⟩),(15,⟨[],⟨[],[(1, .cells 68 [.int .u8, .nilv, .nilv]),(2, .row 363),(3, .cells 68 [.int .u8, .own 1427, .own 1428]),(1427, .sl 65),(1428, .sl 5),(1429, .cells 65 [.str, .nilv])]⟩,[10],[],[1,2,3,1427,1428,1429],0,[],⟨[],[]⟩,[]⟩),(27,⟨[14],⟨[.int .u8],[(1, .cells 68 [.int .u8, .nilv, .nilv]),(3, .cells 68 [.int .u8, .own 1431, .own 1428]),(1431, .sl 65),(1428, .sl 5)]⟩,[],[2,1429],[1,3,1428,1431],0,[],⟨[],[]⟩,[]⟩)]) (fl:=some fu) (exS:=⟨[.optr 0, .bool],[(0, .row 68)]⟩)
theorem zrW(fu:Nat)(zR:List ze×zh×Bool×Bool->Option (List zg×Bool))(hs:zf Tryz.prog (qM zR)):zf Tryz.prog (qM (EI fu zR)):=
 okC Tryz.f244 (memC (zmx fu zR hs) zu) (fz:=[(9,[2])]) (cuts:=[(4,⟨[10,11,18],⟨[.own 1322, .int .i64, .int .i64],[(1322, .sl 68)]⟩,[0,2,3,5,17],[0],[],0,[10],⟨[.own 1322],[(1322, .sl 68)]⟩,[1322]⟩)]) (joins:=[(12,⟨[10],⟨[.own 1424],[(1424, .sl 68)]⟩,[12,18],[],[],0,[],⟨[],[]⟩,[]⟩),(13,⟨[10,11,18],⟨[.own 1425, .int .i64, .int .i64],[(1425, .sl 68)]⟩,[],[],[],0,[],⟨[],[]⟩,[]⟩)]) (fl:=some fu)
theorem zrE(fu:Nat):zf Tryz.prog (qM (zR fu)):=Ag (qM (zR fu)) (EI fu) (fun S h=>zrW fu S h) fu
theorem zrV(fu:Nat)(qW:List zg->Option Int)(hs:zf Tryz.prog (iC qW)):zf Tryz.prog (iC (FI fu qW)):=
 okC Tryz.f86 (memC hs zu) (cuts:=[(3,⟨[3,14],⟨[.int .i64, .int .i64],[]⟩,[2,12,13],[],[],0,[3],⟨[.int .i64],[]⟩,[]⟩),(6,⟨[3,21],⟨[.int .i64, .int .i64],[]⟩,[14,19,20],[],[],2,[3],⟨[.int .i64],[]⟩,[]⟩),(9,⟨[3,28],⟨[.int .i64, .int .i64],[]⟩,[21,26,27],[],[],4,[3],⟨[.int .i64],[]⟩,[]⟩)]) (fl:=some fu)
theorem MQ(fu:Nat):zf Tryz.prog (iC (qW fu)):=Ag (iC (qW fu)) (FI fu) (fun S h=>zrV fu S h) fu
theorem RZ(fu:Nat):zf Tryz.prog (KY (YM fu)):=
 okC Tryz.f195 (memC (Qy fu) (memC (zrE fu) (memC (MQ fu) zu))) (fl:=some fu)
theorem zkB(fu:Nat):zf Tryz.prog (vQ (iQ fu)):=
 okC Tryz.f170 zu (fl:=some fu)
theorem zlu(fu:Nat):zf Tryz.prog (vQ (jI fu)):=(zkB fu).le (zlp fu)
theorem zBK(fu:Nat)(Xi:List ze->Option (List ze))(hs:zf Tryz.prog (GA Xi)):zf Tryz.prog (GA (iG fu Xi)):=
 okC Tryz.f246 (memC (zlu fu) (memC hs zu)) (cuts:=[(3,⟨[8],⟨[.int .i64],[(0, .sl 135)]⟩,[0,2,7],[],[0],0,[],⟨[],[(0, .sl 135)]⟩,[0]⟩)]) (fl:=some fu)
theorem nN(fu:Nat):zf Tryz.prog (GA (Xi fu)):=Ag (GA (Xi fu)) (iG fu) (fun S h=>zBK fu S h) fu
theorem dH(fu:Nat):zf Tryz.prog (uW (xy fu)):=
 okC Tryz.f197 (memC (Qy fu) (memC (nN fu) zu)) (fz:=[(12,[7]),(15,[5])]) (cuts:=[(9,⟨[7,8,24],⟨[.own 1431, .int .i64, .int .i64],[(1431, .sl 31)]⟩,[0,1,4,5,22,23],[],[],0,[7,8],⟨[.own 1431, .int .i64],[(1431, .sl 31)]⟩,[1431]⟩)]) (joins:=[(14,⟨[7,8,24],⟨[.own 1533, .int .i64, .int .i64],[(1533, .sl 31)]⟩,[],[],[],0,[],⟨[],[]⟩,[]⟩)]) (fl:=some fu)
theorem Sj:zf Tryz.prog (zHP QE):=
 okC Tryz.f95 zu
theorem zA6(fu:Nat):zf Tryz.prog (zCn (jy fu)):=
 okC Tryz.f292 (memC Sj zu) (cuts:=[(1,⟨[0],⟨[.sl 135],[]⟩,[2],[],[],0,[0],⟨[.sl 135],[]⟩,[]⟩)]) (fl:=some fu)
theorem mY(fu:Nat):zf Tryz.prog (IX (Dz fu)):=
 okC Tryz.f291 (memC Sj zu) (cuts:=[(1,⟨[0],⟨[.sl 135],[]⟩,[2],[],[],0,[0],⟨[.sl 135],[]⟩,[]⟩)]) (fl:=some fu)
theorem KN:zf Tryz.prog (zEv Py):=
 okC Tryz.f96 (memC Sj zu)
theorem gY:zf Tryz.prog (sW dG):=
 okC Tryz.f247 zu (p:=1)
theorem wG(fu:Nat):zf Tryz.prog (zCA (Yy fu)):=
 okC Tryz.f198 (memC (Qy fu) (memC gY (memC (nN fu) zu))) (cuts:=[(6,⟨[6],⟨[.int .i64],[]⟩,[1,2,3,5,7],[0],[],0,[6],⟨[.int .i64],[]⟩,[]⟩),(8,⟨[7],⟨[.int .i64],[]⟩,[1,2,3,5,6],[0],[],2,[7],⟨[.int .i64],[]⟩,[]⟩)]) (fl:=some fu)
theorem nY(fu:Nat):zf Tryz.prog (JX (gM fu)):=
 okC Tryz.f90 (memC Zy (memC Zx (memC (Z0 fu) zu))) (fl:=some fu)
theorem ziQ:zf Tryz.prog (zjd stringslite_TrimPrefix):=
 okC Tryz.f295 (memC yQ zu)
theorem zmC:zf Tryz.prog (znu strings_TrimPrefix):=
 okC Tryz.f259 (memC ziQ zu)
theorem pu:zf Tryz.prog (zCr Uj):=
 okC Tryz.f260 zu
theorem vH:zf Tryz.prog (xZ Wq):=
 okC Tryz.f207 (memC zmC (memC pu zu))
theorem MP:zf Tryz.prog (CX TG):=
 okC Tryz.f261 zu
theorem yG:zf Tryz.prog (zCu Yp):=
 okC Tryz.f208 (memC MP (memC pu zu))
theorem zo7:zf Tryz.prog (zpy strings_Contains):=
 okC Tryz.f209 (memC rE zu)
theorem eG:zf Tryz.prog (zEy Np):=
 okC Tryz.f151 (memC Zy (memC vH (memC Zx (memC yG (memC zo7 zu))))) (joins:=[(8,⟨[3,4,5,6,7,25],⟨[.bool, .bool, .bool, .bool, .bool, .bool],[]⟩,[1,16],[],[],0,[],⟨[],[]⟩,[]⟩),(14,⟨[3,4,5,6,7,63],⟨[.bool, .bool, .bool, .bool, .bool, .bool],[]⟩,[],[],[],0,[],⟨[],[]⟩,[]⟩),(22,⟨[4,5,6,7,94],⟨[.bool, .bool, .bool, .bool, .bool],[]⟩,[3],[],[],0,[],⟨[],[]⟩,[]⟩),(24,⟨[3,4,5,6,7],⟨[.bool, .bool, .bool, .bool, .bool],[]⟩,[1],[0],[],0,[],⟨[],[]⟩,[]⟩)])
theorem bP:zf Tryz.prog (wZ Qc):=
 okC Tryz.f210 zu (p:=1)
theorem LP(fu:Nat):zf Tryz.prog (BX (SG fu)):=
 okC Tryz.f152 (memC bP (memC (QI fu) zu)) (joins:=[(11,⟨[5],⟨[.int .i64],[]⟩,[3],[0],[],0,[],⟨[],[]⟩,[]⟩)]) (fl:=some fu)
theorem NP(fu:Nat):zf Tryz.prog (EX (UG fu)):=
 okC Tryz.f91 (memC eG (memC (LP fu) zu)) (cuts:=[(4,⟨[10],⟨[.int .i64],[]⟩,[0,8,9],[],[],0,[],⟨[],[]⟩,[]⟩)]) (fl:=some fu)
theorem zp5(fu:Nat)(Zj:List ze->Option Bool)(h_decl_closersQ:zf Tryz.prog (QD Zj)):zf Tryz.prog (zq3 (yP fu Zj)):=
 okC Tryz.f153 (memC Sj (memC h_decl_closersQ zu)) (fl:=some fu)
theorem zgn(fu:Nat)(Zj:List ze->Option Bool)(h_decl_closersQ:zf Tryz.prog (QD Zj)):zf Tryz.prog (zgP (NR fu Zj)):=
 okC Tryz.f137 (memC (zp5 fu Zj h_decl_closersQ) zu) (cuts:=[(2,⟨[8],⟨[.int .i64],[]⟩,[0,1,7],[],[],0,[],⟨[],[]⟩,[]⟩)]) (fl:=some fu)
theorem zfB(fu:Nat)(Zj:List ze->Option Bool)(h_decl_closersQ:zf Tryz.prog (QD Zj)):zf Tryz.prog (zfY (YR fu Zj)):=
 okC Tryz.f93 (memC (zgn fu Zj h_decl_closersQ) zu) (fl:=some fu)
theorem K9(fu:Nat)(Zj:List ze->Option Bool)(hs:zf Tryz.prog (QD Zj)):zf Tryz.prog (QD (sH fu Zj)):=
 okC Tryz.f92 (memC (zfB fu Zj hs) zu) (fl:=some fu)
theorem zsY(fu:Nat):zf Tryz.prog (QD (Zj fu)):=Ag (QD (Zj fu)) (sH fu) (fun S h=>K9 fu S h) fu
theorem jP:zf Tryz.prog (Y0 gu):=
 okC Tryz.f94 (memC Sj (memC KN zu))
end Go.Lv.VT
end
