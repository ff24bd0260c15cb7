/- Contracts. -/
import Derived.Test.YtjjdimihokbknaaGreatDoorTx
import Derived.Test.YtjjdimihokbknaaGreatDoorIp
import Derived.Test.YtjjdimihokbknaaGreatDoorLf
import Derived.Test.YtjjdimihokbknaaGreatDoorPa
import Derived.Test.YtjjdimihokbknaaGreatDoorCw
noncomputable section
set_option linter.unusedSimpArgs false
set_option linter.unusedVariables false
namespace Go.Lv.VT
set_option maxRecDepth 100000
open Go.Proofs
theorem alt2 {T U V W:Type} {A B:T->Option U} {t:Option V} {c:V->Bool} {p:V->Option W} {d:W->Bool} {x:T} {y:U}
  (h:(za t fun v=>bif c v then za (A x) fun z=>some z else za (p v) fun w=>bif d w then za (A x) fun z=>some z else za (B x) fun z=>some z)=some y): ∃n:Bool,(cond n A B) x=some y:=by
 have key: ∀o:Option U,za o (fun z=>some z)=some y->o=some y:=fun o=>by cases o<;>exact id
 cases t with
 |none=>cases h
 |some v=>
  replace h:(bif c v then za (A x) fun z=>some z else za (p v) fun w=>bif d w then za (A x) fun z=>some z else za (B x) fun z=>some z)=some y:=h;cases hc:c v<;>rw[hc]at h
  ·replace h:(za (p v) fun w=>bif d w then za (A x) fun z=>some z else za (B x) fun z=>some z)=some y:=h;cases hp:p v with
   |none=>rw[hp]at h;cases h
   |some w=>
    rw[hp]at h;replace h:(bif d w then za (A x) fun z=>some z else za (B x) fun z=>some z)=some y:=h;cases hd:d w<;>rw[hd]at h
    ·exact⟨false,key _ h⟩
    ·exact⟨true,key _ h⟩
  ·exact⟨true,key _ h⟩
theorem okC{con:Con I}{S:List (Con I)}(f:Go.Func)(hS: ∀c∈S,zh Tryz.prog c)(fz:List (Nat×List Nat):=[])(pre:List (Nat×List (Nat×Option Nat)):=[])(p:Nat:=0)(cuts:List (Nat×Cut):=[])(joins:List (Nat×Cut):=[])(cls:List (Nat×List Nat):=[])(fl:Option Nat:=none)(exS:StSh:=con.outS)(hf:Tryz.prog.funcs[con.f]? =some f:=by kernel_rfl)(h:chk con (⟨S,fz,pre,p,cuts,joins,cls,fl⟩:Env0 I) f=true:=by kernel_rfl)(he: ∀x,evF2 (⟨S,fz,pre,p,cuts,joins,cls,fl⟩:Env0 I) T FK f.ntmps (rsl f) (body f) con exS x=con.F x:=by intro x;kernel_rfl):zh Tryz.prog con:=
 okC0 mixed ipOK tok rfl rfl hS hf h he
theorem recC(c:Con I)(B:((c.inS.sl I).T->Option (c.outS.sl I).T)->(c.inS.sl I).T->Option (c.outS.sl I).T)(hB: ∀S,zh Tryz.prog (⟨c.f,c.inS,c.cst,c.outS,c.k,S⟩:Con I)->zh Tryz.prog (⟨c.f,c.inS,c.cst,c.outS,c.k,B S⟩:Con I))(hwf:ig (⟨c.f,c.inS,c.cst,c.outS,c.k,fun _=>Option.none⟩:Con I)=true:=by kernel_rfl):zh Tryz.prog (⟨c.f,c.inS,c.cst,c.outS,c.k,Lv.recE B⟩:Con I):=zh.recE B hwf hB
theorem Ag(c:Con I)(B:((c.inS.sl I).T->Option (c.outS.sl I).T)->(c.inS.sl I).T->Option (c.outS.sl I).T)(hB: ∀S,zh Tryz.prog (⟨c.f,c.inS,c.cst,c.outS,c.k,S⟩:Con I)->zh Tryz.prog (⟨c.f,c.inS,c.cst,c.outS,c.k,B S⟩:Con I))(n:Nat)(hwf:ig (⟨c.f,c.inS,c.cst,c.outS,c.k,fun _=>Option.none⟩:Con I)=true:=by kernel_rfl):zh Tryz.prog (⟨c.f,c.inS,c.cst,c.outS,c.k,Re B n⟩:Con I):=zh.iter B hwf hB n
def znA(F:Str×Int->Option Int):Con I:=⟨116,⟨[.str, .int .u8],[]⟩,[],⟨[.int .i64],[]⟩,0,F⟩
def D8(F:Str->Option Bool):Con I:=⟨115,⟨[.str],[]⟩,[],⟨[.bool],[]⟩,0,F⟩
def zfB(F:List Str->Option Int):Con I:=⟨156,⟨[.sl 9, .clo 115 []],[]⟩,[],⟨[.int .i64],[]⟩,0,F⟩
def zdV(F:List Str->Option Bool):Con I:=⟨114,⟨[.sl 9, .clo 115 []],[]⟩,[],⟨[.bool],[]⟩,0,F⟩
def vY(F:List Str->Option Bool):Con I:=⟨82,⟨[.sl 9],[]⟩,[],⟨[.bool],[]⟩,0,F⟩
def E8(F:List Str->Option Bool):Con I:=⟨81,⟨[.sl 9],[]⟩,[],⟨[.bool],[]⟩,0,F⟩
def zgV(F:List (List Str)->Option Int):Con I:=⟨113,⟨[.sl 78, .clo 81 []],[]⟩,[],⟨[.int .i64],[]⟩,0,F⟩
def ze7(F:List (List Str)->Option Bool):Con I:=⟨80,⟨[.sl 78, .clo 81 []],[]⟩,[],⟨[.bool],[]⟩,0,F⟩
def UC(F:List zf->Option Int):Con I:=⟨83,⟨[.sl 105],[]⟩,[],⟨[.int .i64],[]⟩,0,F⟩
def BZ(F:Str×Int->Option Bool):Con I:=⟨238,⟨[.str, .int .i64],[]⟩,[],⟨[.bool],[]⟩,0,F⟩
def K8(F:Str->Option Bool):Con I:=⟨234,⟨[.str],[]⟩,[],⟨[.bool],[]⟩,0,F⟩
def Y4(F:Str->Option Str):Con I:=⟨99,⟨[.str],[]⟩,[],⟨[.str],[]⟩,0,F⟩
def X9(F:Str->Option Bool):Con I:=⟨202,⟨[.str],[]⟩,[],⟨[.bool],[]⟩,0,F⟩
def L8(F:zw->Option (Bool×Bool)):Con I:=⟨235,⟨[.val 114],[]⟩,[],⟨[.bool, .bool],[]⟩,0,F⟩
def zoj(F:zg×Int->Option (zg×Bool)):Con I:=⟨236,⟨[.val 169, .int .u8],[]⟩,[],⟨[.val 169, .bool],[]⟩,0,F⟩
def zA2(F:Int->Option Bool):Con I:=⟨276,⟨[.int .i64],[]⟩,[],⟨[.bool],[]⟩,0,F⟩
def zC8(F:VAnb->Option Int):Con I:=⟨239,⟨[.val 112],[]⟩,[],⟨[.int .i64],[]⟩,0,F⟩
def zny(F:zf×zg×zw->Option Bool):Con I:=⟨237,⟨[.val 105, .optr 0, .optr 1],[(0, .row 169),(1, .row 114)]⟩,[0,1],⟨[.bool],[]⟩,0,F⟩
def ze8(F:List zf×zg×zw->Option Int):Con I:=⟨158,⟨[.sl 105, .clo 237 [0,1]],[(0, .row 169),(1, .row 114)]⟩,[0,1],⟨[.int .i64],[]⟩,0,F⟩
def zdB(F:List zf×zg×zw->Option Bool):Con I:=⟨117,⟨[.sl 105, .clo 237 [0,1]],[(0, .row 169),(1, .row 114)]⟩,[0,1],⟨[.bool],[]⟩,0,F⟩
def zpU(F:zw×zg->Option Bool):Con I:=⟨203,⟨[.val 114, .val 169],[]⟩,[],⟨[.bool],[]⟩,0,F⟩
def znw(F:zI×zg->Option Bool):Con I:=⟨161,⟨[.val 109, .val 169],[]⟩,[],⟨[.bool],[]⟩,0,F⟩
def zom(F:zI×zg->Option Bool):Con I:=⟨160,⟨[.val 109, .optr 0],[(0, .row 169)]⟩,[0],⟨[.bool],[]⟩,0,F⟩
def zfA(F:List zI×zg->Option Int):Con I:=⟨201,⟨[.sl 109, .clo 160 [0]],[(0, .row 169)]⟩,[0],⟨[.int .i64],[]⟩,0,F⟩
def zdU(F:List zI×zg->Option Bool):Con I:=⟨159,⟨[.sl 109, .clo 160 [0]],[(0, .row 169)]⟩,[0],⟨[.bool],[]⟩,0,F⟩
def ZB(F:zf×zg×Bool->Option Bool):Con I:=⟨119,⟨[.val 105, .val 169, .bool],[]⟩,[],⟨[.bool],[]⟩,0,F⟩
def zoh(F:zf->Option Bool):Con I:=⟨118,⟨[.val 105],[]⟩,[],⟨[.bool],[]⟩,0,F⟩
def zgc(F:List zf->Option Int):Con I:=⟨158,⟨[.sl 105, .clo 118 []],[]⟩,[],⟨[.int .i64],[]⟩,0,F⟩
def zeH(F:List zf->Option Bool):Con I:=⟨117,⟨[.sl 105, .clo 118 []],[]⟩,[],⟨[.bool],[]⟩,0,F⟩
def LC(F:List zf->Option Int):Con I:=⟨120,⟨[.sl 105],[]⟩,[],⟨[.int .i64],[]⟩,0,F⟩
def R8(F:List zf->Option Int):Con I:=⟨84,⟨[.sl 105],[]⟩,[],⟨[.int .i64],[]⟩,0,F⟩
def vW(F:zo->Option Bool):Con I:=⟨85,⟨[.val 71],[]⟩,[],⟨[.bool],[]⟩,0,F⟩
def gX(F:Int->Option Int):Con I:=⟨97,⟨[.int .u8],[]⟩,[],⟨[.int .u8],[]⟩,0,F⟩
def RA(F:List ze×Int->Option zS):Con I:=⟨122,⟨[.sl 131, .int .u8],[]⟩,[],⟨[.val 173],[]⟩,0,F⟩
def lX(F:List ze->Option Int):Con I:=⟨121,⟨[.sl 131],[]⟩,[],⟨[.int .i64],[]⟩,0,F⟩
def kX(F:List ze->Option (Int×Int)):Con I:=⟨86,⟨[.sl 131],[]⟩,[],⟨[.int .i64, .int .i64],[]⟩,0,F⟩
def VB(F:List ze×List zk->Option (List zk)):Con I:=⟨162,⟨[.own 0, .sl 131],[(0, .sl 129)]⟩,[],⟨[.own 1],[(1, .sl 129)]⟩,1,F⟩
def V4(F:List ze->Option (List zk)):Con I:=⟨162,⟨[.nilv, .sl 131],[]⟩,[],⟨[.own 0],[(0, .sl 129)]⟩,1,F⟩
def zBf(F:List ze->Option (List zk×Int)):Con I:=⟨123,⟨[.sl 131],[]⟩,[],⟨[.sl 129, .int .i64],[]⟩,0,F⟩
def zjd(F:Str×Str->Option Bool):Con I:=⟨166,⟨[.str, .str],[]⟩,[],⟨[.bool],[]⟩,0,F⟩
def znz(F:Str×Str->Option Bool):Con I:=⟨131,⟨[.str, .str],[]⟩,[],⟨[.bool],[]⟩,0,F⟩
def VX(F:Str->Option Bool):Con I:=⟨124,⟨[.str],[]⟩,[],⟨[.bool],[]⟩,0,F⟩
def zis(F:Str×Str->Option Str):Con I:=⟨277,⟨[.str, .str],[]⟩,[],⟨[.str],[]⟩,0,F⟩
def zms(F:Str×Str->Option Str):Con I:=⟨240,⟨[.str, .str],[]⟩,[],⟨[.str],[]⟩,0,F⟩
def zBa(F:Int->Option Bool):Con I:=⟨241,⟨[.int .u8],[]⟩,[],⟨[.bool],[]⟩,0,F⟩
def G5(F:Str->Option Bool):Con I:=⟨204,⟨[.str],[]⟩,[],⟨[.bool],[]⟩,0,F⟩
def OX(F:Int->Option Bool):Con I:=⟨242,⟨[.int .u8],[]⟩,[],⟨[.bool],[]⟩,0,F⟩
def zBb(F:Int->Option Bool):Con I:=⟨205,⟨[.int .u8],[]⟩,[],⟨[.bool],[]⟩,0,F⟩
def zoo(F:Str×Str->Option Bool):Con I:=⟨206,⟨[.str, .str],[]⟩,[],⟨[.bool],[]⟩,0,F⟩
def zDf(F:zk->Option Bool):Con I:=⟨163,⟨[.val 129],[]⟩,[],⟨[.bool],[]⟩,0,F⟩
def E5(F:(Int×Int)×List zk->Option Bool):Con I:=⟨207,⟨[.int .i64, .int .u8, .optr 0],[(0, .row 120)]⟩,[0],⟨[.bool],[]⟩,0,F⟩
def D5(F:Str×Str->Option Bool):Con I:=⟨208,⟨[.str, .str],[]⟩,[],⟨[.bool],[]⟩,0,F⟩
def MX(F:List zk->Option Int):Con I:=⟨164,⟨[.sl 129],[]⟩,[],⟨[.int .i64],[]⟩,0,F⟩
def PX(F:List zk->Option Int):Con I:=⟨125,⟨[.sl 129],[]⟩,[],⟨[.int .i64],[]⟩,0,F⟩
def zGf(F:ze×Int->Option Bool):Con I:=⟨129,⟨[.val 131, .int .u8],[]⟩,[],⟨[.bool],[]⟩,0,F⟩
def zpQ(F:ze->Option Bool):Con I:=⟨165,⟨[.val 131],[]⟩,[],⟨[.bool],[]⟩,0,F⟩
def zhN(F:List ze->Option Int):Con I:=⟨142,⟨[.sl 131, .clo 165 []],[]⟩,[],⟨[.int .i64],[]⟩,0,F⟩
def zfx(F:List ze->Option Bool):Con I:=⟨127,⟨[.sl 131, .clo 165 []],[]⟩,[],⟨[.bool],[]⟩,0,F⟩
def Qr(F:List ze->Option Bool):Con I:=⟨126,⟨[.sl 131],[]⟩,[],⟨[.bool],[]⟩,0,F⟩
def zDd(F:ze->Option Bool):Con I:=⟨130,⟨[.val 131],[]⟩,[],⟨[.bool],[]⟩,0,F⟩
def J5(F:ze->Option Bool):Con I:=⟨128,⟨[.val 131],[]⟩,[],⟨[.bool],[]⟩,0,F⟩
def zge(F:List ze->Option Int):Con I:=⟨142,⟨[.sl 131, .clo 128 []],[]⟩,[],⟨[.int .i64],[]⟩,0,F⟩
def zeJ(F:List ze->Option Bool):Con I:=⟨127,⟨[.sl 131, .clo 128 []],[]⟩,[],⟨[.bool],[]⟩,0,F⟩
def WX(F:Zd->Option Int):Con I:=⟨87,⟨[.val 68],[]⟩,[],⟨[.int .i64],[]⟩,0,F⟩
def NB(F:zo->Option Int):Con I:=⟨88,⟨[.val 71],[]⟩,[],⟨[.int .i64],[]⟩,0,F⟩
def zDa(F:zo->Option Bool):Con I:=⟨135,⟨[.val 71],[]⟩,[],⟨[.bool],[]⟩,0,F⟩
def zkx(F:List Str×Str->Option Int):Con I:=⟨278,⟨[.sl 9, .str],[]⟩,[],⟨[.int .i64],[]⟩,0,F⟩
def zhM(F:List Str×Str->Option Bool):Con I:=⟨243,⟨[.sl 9, .str],[]⟩,[],⟨[.bool],[]⟩,0,F⟩
def O4(F:Str->Option Bool):Con I:=⟨209,⟨[.str],[]⟩,[],⟨[.bool],[]⟩,0,F⟩
def H5(F:List Int->Option Int):Con I:=⟨244,⟨[.sl 2],[]⟩,[],⟨[.int .i64],[]⟩,0,F⟩
def I5(F:Int->Option Int):Con I:=⟨210,⟨[.int .i64],[]⟩,[],⟨[.int .i64],[]⟩,0,F⟩
def XX(F:zo->Option Bool):Con I:=⟨168,⟨[.val 71],[]⟩,[],⟨[.bool],[]⟩,0,F⟩
def zA4(F:zo->Option Bool):Con I:=⟨169,⟨[.val 71],[]⟩,[],⟨[.bool],[]⟩,0,F⟩
def zA3(F:zo->Option Bool):Con I:=⟨134,⟨[.val 71],[]⟩,[],⟨[.bool],[]⟩,0,F⟩
def zmm(F:zo->Option Bool):Con I:=⟨133,⟨[.val 71],[]⟩,[],⟨[.bool],[]⟩,0,F⟩
def zio(F:List zo->Option Int):Con I:=⟨167,⟨[.sl 71, .clo 133 []],[]⟩,[],⟨[.int .i64],[]⟩,0,F⟩
def zga(F:List zo->Option Bool):Con I:=⟨132,⟨[.sl 71, .clo 133 []],[]⟩,[],⟨[.bool],[]⟩,0,F⟩
def zod(F:zo->Option Int):Con I:=⟨89,⟨[.val 71],[]⟩,[],⟨[.int .i64],[]⟩,0,F⟩
def TA(F:zo->Option Int):Con I:=⟨90,⟨[.val 71],[]⟩,[],⟨[.int .i64],[]⟩,0,F⟩
def zDb(F:zo->Option Bool):Con I:=⟨170,⟨[.val 71],[]⟩,[],⟨[.bool],[]⟩,0,F⟩
def SA(F:zo×Int->Option ((Int×Bool)×Int)):Con I:=⟨136,⟨[.val 71, .optr 0],[(0, .row 3)]⟩,[],⟨[.int .i64, .bool],[(0, .row 3)]⟩,0,F⟩
def zkT(F:zo->Option Int):Con I:=⟨91,⟨[.val 71],[]⟩,[],⟨[.int .i64],[]⟩,0,F⟩
def UA(F:List zK->Option zq):Con I:=⟨58,⟨[.sl 74],[]⟩,[],⟨[.val 100],[]⟩,0,F⟩
def yY(F:List zK->Option Int):Con I:=⟨38,⟨[.sl 74],[]⟩,[],⟨[.int .i64],[]⟩,0,F⟩
def AZ(F:ZI->Option Int):Con I:=⟨22,⟨[.val 27],[]⟩,[],⟨[.int .i64],[]⟩,0,F⟩
def M0(F:Ze->Option Int):Con I:=⟨28,⟨[.val 24],[]⟩,[],⟨[.int .i64],[]⟩,0,F⟩
def zhP(F:zb->Option zb):Con I:=⟨140,⟨[.optr 0],[(0, .row 191)]⟩,[],⟨[],[(0, .row 191)]⟩,0,F⟩
def zmv(F:Int×zb->Option Int):Con I:=⟨175,⟨[.optr 0, .int .i64],[(0, .row 191)]⟩,[0],⟨[.int .i64],[]⟩,0,F⟩
def kW(F:Int->Option Bool):Con I:=⟨176,⟨[.int .i64],[]⟩,[],⟨[.bool],[]⟩,0,F⟩
def zkB(F:zb->Option zb):Con I:=⟨177,⟨[.optr 0, .clo 176 []],[(0, .row 191)]⟩,[],⟨[],[(0, .row 191)]⟩,0,F⟩
def zgi(F:Int->Option (List UInt8)):Con I:=⟨286,⟨[.nilv, .int .i32],[]⟩,[],⟨[.own 0],[(0, .sl 5)]⟩,1,F⟩
def znB(F:Int->Option (List UInt8)):Con I:=⟨251,⟨[.nilv, .int .i32],[]⟩,[],⟨[.own 0],[(0, .sl 5)]⟩,1,F⟩
def wZ(F:Int×Int×Int->Option Bool):Con I:=⟨253,⟨[.int .i64, .int .i64, .int .i64],[]⟩,[],⟨[.bool],[]⟩,0,F⟩
def mW(F:Int->Option Bool):Con I:=⟨217,⟨[.int .i64],[]⟩,[],⟨[.bool],[]⟩,0,F⟩
def zDt(F:Int->Option Int):Con I:=⟨252,⟨[.int .i64],[]⟩,[],⟨[.int .i64],[]⟩,0,F⟩
def zgW(F:zb->Option (zb×List UInt8)):Con I:=⟨215,⟨[.optr 0, .nilv],[(0, .row 191)]⟩,[],⟨[.own 1],[(0, .row 191),(1, .sl 5)]⟩,1,F⟩
def zgj(F:Int×List UInt8->Option (List UInt8)):Con I:=⟨286,⟨[.own 0, .int .i32],[(0, .sl 5)]⟩,[],⟨[.own 1],[(1, .sl 5)]⟩,1,F⟩
def znC(F:Int×List UInt8->Option (List UInt8)):Con I:=⟨251,⟨[.own 0, .int .i32],[(0, .sl 5)]⟩,[],⟨[.own 1],[(1, .sl 5)]⟩,1,F⟩
def zgX(F:zb×List UInt8->Option (zb×List UInt8)):Con I:=⟨215,⟨[.optr 0, .own 1],[(0, .row 191),(1, .sl 5)]⟩,[],⟨[.own 2],[(0, .row 191),(2, .sl 5)]⟩,1,F⟩
def zje(F:zb->Option (zk×zb)):Con I:=⟨178,⟨[.optr 0],[(0, .row 191)]⟩,[],⟨[.val 129],[(0, .row 191)]⟩,0,F⟩
def lW(F:Int->Option Bool):Con I:=⟨216,⟨[.int .i64],[]⟩,[],⟨[.bool],[]⟩,0,F⟩
def xZ(F:Int->Option Bool):Con I:=⟨179,⟨[.int .i64],[]⟩,[],⟨[.bool],[]⟩,0,F⟩
def zky(F:Int×zb->Option Bool):Con I:=⟨180,⟨[.optr 0, .int .i64],[(0, .row 191)]⟩,[0],⟨[.bool],[]⟩,0,F⟩
def zmu(F:Int×zb->Option Bool):Con I:=⟨181,⟨[.optr 0, .int .i64],[(0, .row 191)]⟩,[0],⟨[.bool],[]⟩,0,F⟩
def zk4(F:zb->Option (Str×zb)):Con I:=⟨182,⟨[.optr 0],[(0, .row 191)]⟩,[],⟨[.str],[(0, .row 191)]⟩,0,F⟩
def zkA(F:zb->Option Bool):Con I:=⟨183,⟨[.optr 0],[(0, .row 191)]⟩,[0],⟨[.bool],[]⟩,0,F⟩
def ziv(F:zb->Option zb):Con I:=⟨177,⟨[.optr 0, .clo 217 []],[(0, .row 191)]⟩,[],⟨[],[(0, .row 191)]⟩,0,F⟩
def zit(F:zb->Option (Bool×zb)):Con I:=⟨218,⟨[.optr 0],[(0, .row 191)]⟩,[],⟨[.bool],[(0, .row 191)]⟩,0,F⟩
def zmx(F:Str->Option Int):Con I:=⟨219,⟨[.str],[]⟩,[],⟨[.int .i64],[]⟩,0,F⟩
def ziu(F:zb->Option (zk×zb)):Con I:=⟨184,⟨[.optr 0],[(0, .row 191)]⟩,[],⟨[.val 129],[(0, .row 191)]⟩,0,F⟩
def zmt(F:zb->Option (zk×zb)):Con I:=⟨257,⟨[.optr 0],[(0, .row 191)]⟩,[],⟨[.val 129],[(0, .row 191)]⟩,0,F⟩
def zmw(F:zb->Option (zk×zb)):Con I:=⟨220,⟨[.optr 0],[(0, .row 191)]⟩,[],⟨[.val 129],[(0, .row 191)]⟩,0,F⟩
def zkz(F:zb->Option (zk×zb)):Con I:=⟨185,⟨[.optr 0],[(0, .row 191)]⟩,[],⟨[.val 129],[(0, .row 191)]⟩,0,F⟩
def zk3(F:zb->Option (zk×zb)):Con I:=⟨141,⟨[.optr 0],[(0, .row 191)]⟩,[],⟨[.val 129],[(0, .row 191)]⟩,0,F⟩
def zop(F:(zk×Int×Int)×List zk->Option (List zk)):Con I:=⟨95,⟨[.val 129, .int .i64, .int .i64, .optr 0],[(0, .cells 120 [.own 1]),(1, .sl 129)]⟩,[],⟨[],[(0, .cells 120 [.own 2]),(2, .sl 129)]⟩,1,F⟩
def l7(F:Str->Option (Int×List zk)):Con I:=⟨94,⟨[.str, .clo 95 [0]],[(0, .cells 120 [.nilv])]⟩,[],⟨[.int .i64],[(0, .cells 120 [.own 1]),(1, .sl 129)]⟩,1,F⟩
def u7(F:Str->Option (List zk×Int)):Con I:=⟨66,⟨[.str],[]⟩,[],⟨[.sl 129, .int .i64],[]⟩,0,F⟩
def zBs(F:List ze->Option Int):Con I:=⟨98,⟨[.sl 131],[]⟩,[],⟨[.int .u8],[]⟩,0,F⟩
def zk2(F:Int×List UInt8->Option Int):Con I:=⟨186,⟨[.own 0, .int .u8],[(0, .sl 5)]⟩,[0],⟨[.int .i64],[]⟩,0,F⟩
def zin(F:Int×List UInt8->Option Bool):Con I:=⟨144,⟨[.own 0, .int .u8],[(0, .sl 5)]⟩,[0],⟨[.bool],[]⟩,0,F⟩
def V9(F:ze×List UInt8->Option Bool):Con I:=⟨143,⟨[.val 131, .optr 0],[(0, .cells 103 [.own 1]),(1, .sl 5)]⟩,[0,1],⟨[.bool],[]⟩,0,F⟩
def zgf(F:List ze×List UInt8->Option Int):Con I:=⟨142,⟨[.sl 131, .clo 143 [0]],[(0, .cells 103 [.own 1]),(1, .sl 5)]⟩,[0,1],⟨[.int .i64],[]⟩,0,F⟩
def tY(F:List ze×List UInt8->Option (List ze×List ze)):Con I:=⟨100,⟨[.sl 131, .own 0],[(0, .sl 5)]⟩,[0],⟨[.sl 131, .sl 131],[]⟩,0,F⟩
def zkY(F:Int×zt->Option zk):Con I:=⟨297,⟨[.optr 0, .int .i64],[(0, .row 325)]⟩,[0],⟨[.val 129],[]⟩,0,F⟩
def zil(F:zt->Option (Bool×zt)):Con I:=⟨295,⟨[.optr 0],[(0, .row 325)]⟩,[],⟨[.bool],[(0, .row 325)]⟩,0,F⟩
def zkV(F:Str×zt->Option (Bool×zt)):Con I:=⟨298,⟨[.optr 0, .str],[(0, .row 325)]⟩,[],⟨[.bool],[(0, .row 325)]⟩,0,F⟩
def zku(F:zt->Option (Int×zt)):Con I:=⟨296,⟨[.optr 0],[(0, .row 325)]⟩,[],⟨[.int .u8],[(0, .row 325)]⟩,0,F⟩
def zkX(F:Int×zt->Option (List ze)):Con I:=⟨317,⟨[.optr 0, .int .i64],[(0, .row 325)]⟩,[0],⟨[.sl 131],[]⟩,0,F⟩
def zkW(F:zt->Option Bool):Con I:=⟨300,⟨[.optr 0],[(0, .row 325)]⟩,[0],⟨[.bool],[]⟩,0,F⟩
def M8(F:List ze->Option (zw×Bool)):Con I:=⟨316,⟨[.sl 131],[]⟩,[],⟨[.val 114, .bool],[]⟩,0,F⟩
def J8(F:Unit->Option (List Str)):Con I:=⟨336,⟨[],[]⟩,[],⟨[.sl 9],[]⟩,0,F⟩
def H8(F:Str->Option (zw×Bool)):Con I:=⟨318,⟨[.str],[]⟩,[],⟨[.val 114, .bool],[]⟩,0,F⟩
def P8(F:ze->Option Bool):Con I:=⟨345,⟨[.val 131],[]⟩,[],⟨[.bool],[]⟩,0,F⟩
def zgg(F:List ze->Option Int):Con I:=⟨142,⟨[.sl 131, .clo 345 []],[]⟩,[],⟨[.int .i64],[]⟩,0,F⟩
def CZ(F:zw×List ze×zg->Option (zw×Bool)):Con I:=⟨337,⟨[.val 114, .sl 131, .val 169],[]⟩,[],⟨[.val 114, .bool],[]⟩,0,F⟩
def znx(F:Str×List ze×zg->Option (zw×Bool)):Con I:=⟨319,⟨[.str, .sl 131, .val 169],[]⟩,[],⟨[.val 114, .bool],[]⟩,0,F⟩
def zhL(F:zg×zt->Option ((List zw×Bool)×zt)):Con I:=⟨299,⟨[.optr 0, .val 169],[(0, .row 325)]⟩,[],⟨[.sl 114, .bool],[(0, .row 325)]⟩,0,F⟩
def zmp(F:List ze×zg×Bool->Option (zf×Bool)):Con I:=⟨258,⟨[.sl 131, .val 169, .bool],[]⟩,[],⟨[.val 105, .bool],[]⟩,0,F⟩
def qC(F:List ze×zg×Bool×Bool->Option (List zf×Bool)):Con I:=⟨221,⟨[.sl 131, .val 169, .bool, .bool],[]⟩,[],⟨[.sl 105, .bool],[]⟩,0,F⟩
def BX(F:List ze->Option (List zf×Int)):Con I:=⟨187,⟨[.sl 131],[]⟩,[],⟨[.sl 105, .int .i64],[]⟩,0,F⟩
def MP(F:List ze->Option (List ze)):Con I:=⟨261,⟨[.sl 131],[]⟩,[],⟨[.own 0],[(0, .sl 131)]⟩,1,F⟩
def OA(F:List ze->Option (List ze)):Con I:=⟨223,⟨[.sl 131],[]⟩,[],⟨[.sl 131],[]⟩,0,F⟩
def jX(F:List ze×Int->Option (List (List ze)×Int)):Con I:=⟨189,⟨[.sl 131, .int .u8],[]⟩,[],⟨[.sl 66, .int .i64],[]⟩,0,F⟩
def zA7(F:List ze->Option (List ze)):Con I:=⟨260,⟨[.sl 131],[]⟩,[],⟨[.sl 131],[]⟩,0,F⟩
def UX(F:List ze->Option (List ze)):Con I:=⟨259,⟨[.sl 131],[]⟩,[],⟨[.sl 131],[]⟩,0,F⟩
def iX(F:Int×List ze->Option Bool):Con I:=⟨224,⟨[.int .i64, .optr 0],[(0, .row 66)]⟩,[0],⟨[.bool],[]⟩,0,F⟩
def zBg(F:List ze->Option (List ze×Int)):Con I:=⟨190,⟨[.sl 131],[]⟩,[],⟨[.sl 131, .int .i64],[]⟩,0,F⟩
def zDe(F:List ze->Option (Zd×Bool)):Con I:=⟨222,⟨[.sl 131],[]⟩,[],⟨[.val 68, .bool],[]⟩,0,F⟩
def zFd(F:List ze->Option (List Zd×Int)):Con I:=⟨188,⟨[.sl 131],[]⟩,[],⟨[.sl 68, .int .i64],[]⟩,0,F⟩
def uY(F:List ze×List ze->Option (zK×Bool)):Con I:=⟨145,⟨[.sl 131, .sl 131],[]⟩,[],⟨[.val 74, .bool],[]⟩,0,F⟩
def zfC(F:List Str->Option Int):Con I:=⟨156,⟨[.own 0, .clo 115 []],[(0, .sl 9)]⟩,[0],⟨[.int .i64],[]⟩,0,F⟩
def zdW(F:List Str->Option Bool):Con I:=⟨114,⟨[.own 0, .clo 115 []],[(0, .sl 9)]⟩,[0],⟨[.bool],[]⟩,0,F⟩
def W9(F:List Str->Option Bool):Con I:=⟨82,⟨[.own 0],[(0, .sl 9)]⟩,[0],⟨[.bool],[]⟩,0,F⟩
def sW(F:List ze->Option (List Str×Bool)):Con I:=⟨191,⟨[.sl 131],[]⟩,[],⟨[.sl 9, .bool],[]⟩,0,F⟩
def xY(F:List ze×Bool->Option (zK×Bool)):Con I:=⟨146,⟨[.sl 131, .bool],[]⟩,[],⟨[.val 74, .bool],[]⟩,0,F⟩
def zoe(F:zx->Option Int):Con I:=⟨225,⟨[.optr 0],[(0, .row 232)]⟩,[0],⟨[.int .u8],[]⟩,0,F⟩
def zof(F:zx->Option (ze×zx)):Con I:=⟨226,⟨[.optr 0],[(0, .row 232)]⟩,[],⟨[.val 131],[(0, .row 232)]⟩,0,F⟩
def zkU(F:zx->Option (Bool×zx)):Con I:=⟨192,⟨[.optr 0],[(0, .row 232)]⟩,[],⟨[.bool],[(0, .row 232)]⟩,0,F⟩
def znr(F:List Str×zx->Option (Str×zx)):Con I:=⟨227,⟨[.optr 0, .sl 9],[(0, .row 232)]⟩,[],⟨[.str],[(0, .row 232)]⟩,0,F⟩
def zkt(F:zx->Option ((zo×Bool)×zx)):Con I:=⟨228,⟨[.optr 0],[(0, .row 232)]⟩,[],⟨[.val 71, .bool],[(0, .row 232)]⟩,0,F⟩
def zmo(F:zx->Option ((zo×Bool)×zx)):Con I:=⟨193,⟨[.optr 0],[(0, .row 232)]⟩,[],⟨[.val 71, .bool],[(0, .row 232)]⟩,0,F⟩
def aX(F:List ze->Option (zo×Int)):Con I:=⟨147,⟨[.sl 131],[]⟩,[],⟨[.val 71, .int .i64],[]⟩,0,F⟩
def zDc(F:List ze->Option (Zd×Bool×Int)):Con I:=⟨262,⟨[.sl 131],[]⟩,[],⟨[.val 68, .bool, .int .i64],[]⟩,0,F⟩
def znq(F:zx->Option ((zo×Bool)×zx)):Con I:=⟨229,⟨[.optr 0],[(0, .row 232)]⟩,[],⟨[.val 71, .bool],[(0, .row 232)]⟩,0,F⟩
def Qq(F:zx->Option ((zo×Bool)×zx)):Con I:=⟨194,⟨[.optr 0],[(0, .row 232)]⟩,[],⟨[.val 71, .bool],[(0, .row 232)]⟩,0,F⟩
def A9(F:List ze->Option (zo×Int)):Con I:=⟨148,⟨[.sl 131],[]⟩,[],⟨[.val 71, .int .i64],[]⟩,0,F⟩
def zkv(F:(Bool×Str×List ze)×zJ->Option ((zK×Bool)×zJ)):Con I:=⟨101,⟨[.optr 0, .bool, .str, .sl 131, .nilp],[(0, .row 126)]⟩,[],⟨[.val 74, .bool],[(0, .row 126)]⟩,0,F⟩
def zmq(F:(Bool×Str×List ze×ze)×zJ->Option ((zK×Bool)×zJ)):Con I:=⟨101,⟨[.optr 0, .bool, .str, .sl 131, .ptr 131],[(0, .row 126)]⟩,[],⟨[.val 74, .bool],[(0, .row 126)]⟩,0,F⟩
def qO(F:(List ze×Bool)×zJ->Option (List zK×zJ)):Con I:=⟨68,⟨[.optr 0, .sl 131, .bool],[(0, .row 126)]⟩,[],⟨[.sl 74],[(0, .row 126)]⟩,0,F⟩
def rW(F:Str->Option (List zK×Int)):Con I:=⟨44,⟨[.str],[]⟩,[],⟨[.sl 74, .nilp, .int .i64],[]⟩,0,F⟩
def xW(F:Str->Option (ZI×Int)):Con I:=⟨29,⟨[.str],[]⟩,[],⟨[.val 27, .int .i64],[]⟩,0,F⟩
def C8(F:Str->Option ((List zK×Int)×zJ)):Con I:=⟨44,⟨[.str],[]⟩,[],⟨[.sl 74, .optr 0, .int .i64],[(0, .row 126)]⟩,1,F⟩
def G8(F:Str->Option (ZI×Int)):Con I:=⟨29,⟨[.str],[]⟩,[],⟨[.val 27, .int .i64],[]⟩,0,F⟩
def F8(F:Str->Option (ZI×Int)):Con I:=⟨29,⟨[.str],[]⟩,[],⟨[.val 27, .int .i64],[]⟩,0,F⟩
def LP(F:List UInt8->Option (List UInt8)):Con I:=⟨59,⟨[.sl 5],[]⟩,[],⟨[.own 0],[(0, .sl 5)]⟩,1,F⟩
def nP(F:List zw->Option (List zw)):Con I:=⟨60,⟨[.sl 114],[]⟩,[],⟨[.own 0],[(0, .sl 114)]⟩,1,F⟩
def QC(F:List zf->Option (List zf)):Con I:=⟨39,⟨[.sl 105],[]⟩,[],⟨[.sl 105],[]⟩,0,F⟩
def nC(F:List ze->Option (List ze)):Con I:=⟨61,⟨[.sl 131],[]⟩,[],⟨[.sl 131],[]⟩,0,F⟩
def zon(F:List Zd->Option (List Zd)):Con I:=⟨40,⟨[.sl 68],[]⟩,[],⟨[.sl 68],[]⟩,0,F⟩
def SC(F:zo->Option zo):Con I:=⟨41,⟨[.val 71],[]⟩,[],⟨[.val 71],[]⟩,0,F⟩
def mP(F:List Str->Option (List Str)):Con I:=⟨42,⟨[.sl 9],[]⟩,[],⟨[.own 0],[(0, .sl 9)]⟩,1,F⟩
def wC(F:List zK->Option (List zK)):Con I:=⟨24,⟨[.sl 74],[]⟩,[],⟨[.sl 74],[]⟩,0,F⟩
def nW(F:Ze->Option Ze):Con I:=⟨23,⟨[.val 24],[]⟩,[],⟨[.val 24],[]⟩,0,F⟩
def zBt(F:Ze×Int×Str×Str->Option (Ze×Int×Int)):Con I:=⟨14,⟨[.val 24, .int .u8, .str, .str],[]⟩,[],⟨[.val 24, .int .i64, .int .i64],[]⟩,0,F⟩
def mX(F:Unit->Option (Ze×Bool)):Con I:=⟨12,⟨[],[]⟩,[],⟨[.val 24, .bool],[]⟩,0,F⟩
def zBv(F:Zr×Int->Option Bool):Con I:=⟨37,⟨[.val 33, .optr 0],[(0, .row 3)]⟩,[0],⟨[.bool],[]⟩,0,F⟩
def ziq(F:List Zr×Int->Option Int):Con I:=⟨36,⟨[.sl 33, .clo 37 [0]],[(0, .row 3)]⟩,[0],⟨[.int .i64],[]⟩,0,F⟩
def zDs(F:Ze×Int->Option (Int×Int)):Con I:=⟨21,⟨[.val 24, .int .i64],[]⟩,[],⟨[.int .i64, .int .i64],[]⟩,0,F⟩
def A8(F:Ze->Option (Int×List Zr)):Con I:=⟨23,⟨[.val 24],[]⟩,[],⟨[.agi 0 .i64],[(0, .sl 33)]⟩,1,F⟩
def oW(F:Ze×Int->Option (Ze×Int)):Con I:=⟨13,⟨[.val 24, .int .i64],[]⟩,[],⟨[.val 24, .int .i64],[]⟩,0,F⟩
def zBu(F:Ze×Int->Option (Zr×Int)):Con I:=⟨9,⟨[.val 24, .int .i64],[]⟩,[],⟨[.val 33, .int .i64],[]⟩,0,F⟩
def l8(F:Ze×List Int->Option Bool):Con I:=⟨15,⟨[.val 24, .sl 3],[]⟩,[],⟨[.bool],[]⟩,0,F⟩
def X4(F:Unit->Option Bool):Con I:=⟨4,⟨[],[]⟩,[],⟨[.bool],[]⟩,0,F⟩
def EA(F:List zf×Int->Option Int):Con I:=⟨45,⟨[.sl 105, .int .i64],[]⟩,[],⟨[.int .i64],[]⟩,0,F⟩
def EW(F:List zf->Option Bool):Con I:=⟨31,⟨[.sl 105],[]⟩,[],⟨[.bool],[]⟩,0,F⟩
def GA(F:List ze×Int->Option Int):Con I:=⟨46,⟨[.sl 131, .int .i64],[]⟩,[],⟨[.int .i64],[]⟩,0,F⟩
def MZ(F:Int->Option Int):Con I:=⟨69,⟨[.int .u8],[]⟩,[],⟨[.int .u8],[]⟩,0,F⟩
def NA(F:List ze->Option Int):Con I:=⟨47,⟨[.sl 131],[]⟩,[],⟨[.int .i64],[]⟩,0,F⟩
def MW(F:List Zd->Option Bool):Con I:=⟨32,⟨[.sl 68],[]⟩,[],⟨[.bool],[]⟩,0,F⟩
def yz(F:zo×Int->Option Int):Con I:=⟨48,⟨[.val 71, .int .i64],[]⟩,[],⟨[.int .i64],[]⟩,0,F⟩
def xz(F:zo->Option Bool):Con I:=⟨49,⟨[.val 71],[]⟩,[],⟨[.bool],[]⟩,0,F⟩
def vV(F:zo->Option Bool):Con I:=⟨33,⟨[.val 71],[]⟩,[],⟨[.bool],[]⟩,0,F⟩
def vB(F:List zK×Int->Option Bool):Con I:=⟨18,⟨[.sl 74, .int .i64],[]⟩,[],⟨[.bool],[]⟩,0,F⟩
def RB(F:List zK->Option Int):Con I:=⟨19,⟨[.sl 74],[]⟩,[],⟨[.int .i64],[]⟩,0,F⟩
def rV(F:List zK->Option Bool):Con I:=⟨6,⟨[.sl 74],[]⟩,[],⟨[.bool],[]⟩,0,F⟩
def CX(F:Ze->Option Bool):Con I:=⟨16,⟨[.val 24],[]⟩,[],⟨[.bool],[]⟩,0,F⟩
def zBr(F:Str->Option Bool):Con I:=⟨30,⟨[.str],[]⟩,[],⟨[.bool],[]⟩,0,F⟩
def wV(F:Str×Int->Option Bool):Con I:=⟨112,⟨[.str, .int .i64],[]⟩,[],⟨[.bool],[]⟩,0,F⟩
def DW(F:Str->Option Bool):Con I:=⟨78,⟨[.str],[]⟩,[],⟨[.bool],[]⟩,0,F⟩
def aW(F:Int->Option Int):Con I:=⟨150,⟨[.int .u8],[]⟩,[],⟨[.int .u8],[]⟩,0,F⟩
def bX(F:Str->Option Str):Con I:=⟨103,⟨[.str],[]⟩,[],⟨[.str],[]⟩,0,F⟩
def yV(F:Str->Option Bool):Con I:=⟨195,⟨[.str],[]⟩,[],⟨[.bool],[]⟩,0,F⟩
def JZ(F:zw->Option Qp):Con I:=⟨171,⟨[.val 114],[]⟩,[],⟨[.val 211],[]⟩,0,F⟩
def JW(F:VAnb->Option Bool):Con I:=⟨230,⟨[.val 112],[]⟩,[],⟨[.bool],[]⟩,0,F⟩
def xV(F:zV×Int->Option (zV×Bool)):Con I:=⟨263,⟨[.val 155, .int .u8],[]⟩,[],⟨[.val 155, .bool],[]⟩,0,F⟩
def IZ(F:List zf×zV×Int->Option Bool):Con I:=⟨231,⟨[.sl 105, .val 155, .int .u8],[]⟩,[],⟨[.bool],[]⟩,0,F⟩
def HZ(F:zw×zV->Option Bool):Con I:=⟨196,⟨[.val 114, .val 155],[]⟩,[],⟨[.bool],[]⟩,0,F⟩
def X8(F:zI×zV->Option Bool):Con I:=⟨149,⟨[.val 109, .val 155],[]⟩,[],⟨[.bool],[]⟩,0,F⟩
def Hm(F:zf×zV×Bool->Option Bool):Con I:=⟨102,⟨[.val 105, .val 155, .bool],[]⟩,[],⟨[.bool],[]⟩,0,F⟩
def zBo(F:List zf->Option Bool):Con I:=⟨70,⟨[.sl 105],[]⟩,[],⟨[.bool],[]⟩,0,F⟩
def SB(F:List zf->Option Int):Con I:=⟨71,⟨[.sl 105],[]⟩,[],⟨[.int .i64],[]⟩,0,F⟩
def IW(F:List zf->Option Int):Con I:=⟨50,⟨[.sl 105],[]⟩,[],⟨[.int .i64],[]⟩,0,F⟩
def IA(F:List ze×List ze->Option Bool):Con I:=⟨138,⟨[.sl 131, .sl 131],[]⟩,[],⟨[.bool],[]⟩,0,F⟩
def KW(F:Zd×Zd->Option Bool):Con I:=⟨93,⟨[.val 68, .val 68],[]⟩,[],⟨[.bool],[]⟩,0,F⟩
def AA(F:zo×zo->Option Bool):Con I:=⟨64,⟨[.val 71, .val 71],[]⟩,[],⟨[.bool],[]⟩,0,F⟩
def zBp(F:zo->Option Bool):Con I:=⟨51,⟨[.val 71],[]⟩,[],⟨[.bool],[]⟩,0,F⟩
def LW(F:Str->Option Bool):Con I:=⟨72,⟨[.str],[]⟩,[],⟨[.bool],[]⟩,0,F⟩
def UB(F:List ze->Option (List zk)):Con I:=⟨106,⟨[.sl 131],[]⟩,[],⟨[.sl 129],[]⟩,0,F⟩
def TB(F:List ze×Int->Option Bool):Con I:=⟨151,⟨[.sl 131, .int .u8],[]⟩,[],⟨[.bool],[]⟩,0,F⟩
def OW(F:List ze->Option Int):Con I:=⟨104,⟨[.sl 131],[]⟩,[],⟨[.int .i64],[]⟩,0,F⟩
def PW(F:Str->Option Bool):Con I:=⟨197,⟨[.str],[]⟩,[],⟨[.bool],[]⟩,0,F⟩
def YW(F:Int->Option Bool):Con I:=⟨232,⟨[.int .u8],[]⟩,[],⟨[.bool],[]⟩,0,F⟩
def zBl(F:Str->Option Bool):Con I:=⟨198,⟨[.str],[]⟩,[],⟨[.bool],[]⟩,0,F⟩
def WW(F:Int->Option Bool):Con I:=⟨264,⟨[.int .u8],[]⟩,[],⟨[.bool],[]⟩,0,F⟩
def zFe(F:Str×Int->Option Int):Con I:=⟨301,⟨[.str, .int .i64],[]⟩,[],⟨[.int .u8],[]⟩,0,F⟩
def NZ(F:Str×Int->Option Int):Con I:=⟨265,⟨[.str, .int .i64],[]⟩,[],⟨[.int .i64],[]⟩,0,F⟩
def zBi(F:Unit->Option Str):Con I:=⟨320,⟨[],[]⟩,[],⟨[.str],[]⟩,0,F⟩
def zDk(F:Int->Option Int):Con I:=⟨321,⟨[.int .u8],[]⟩,[],⟨[.int .i64],[]⟩,0,F⟩
def zBh(F:Int->Option Str):Con I:=⟨322,⟨[.int .i64],[]⟩,[],⟨[.str],[]⟩,0,F⟩
def U7(F:Str×Int->Option (Str×Int)):Con I:=⟨302,⟨[.str, .int .i64],[]⟩,[],⟨[.str, .int .i64],[]⟩,0,F⟩
def OZ(F:Str×Int->Option (zk×Int)):Con I:=⟨266,⟨[.str, .int .i64],[]⟩,[],⟨[.val 129, .int .i64],[]⟩,0,F⟩
def RZ(F:Int->Option Bool):Con I:=⟨303,⟨[.int .u8],[]⟩,[],⟨[.bool],[]⟩,0,F⟩
def UZ(F:Int->Option Bool):Con I:=⟨267,⟨[.int .u8],[]⟩,[],⟨[.bool],[]⟩,0,F⟩
def VZ(F:Str×Int->Option Bool):Con I:=⟨268,⟨[.str, .int .i64],[]⟩,[],⟨[.bool],[]⟩,0,F⟩
def XW(F:Str×Int->Option (Str×Int)):Con I:=⟨269,⟨[.str, .int .i64],[]⟩,[],⟨[.str, .int .i64],[]⟩,0,F⟩
def TZ(F:Str×Int->Option Bool):Con I:=⟨270,⟨[.str, .int .i64],[]⟩,[],⟨[.bool],[]⟩,0,F⟩
def Y8(F:Str×Int->Option Bool):Con I:=⟨271,⟨[.str, .int .i64],[]⟩,[],⟨[.bool],[]⟩,0,F⟩
def PZ(F:Str×Int->Option Int):Con I:=⟨323,⟨[.str, .int .i64],[]⟩,[],⟨[.int .i64],[]⟩,0,F⟩
def zpR(F:Str×Int->Option (Int×Bool)):Con I:=⟨304,⟨[.str, .int .i64],[]⟩,[],⟨[.int .i64, .bool],[]⟩,0,F⟩
def zns(F:Str->Option Int):Con I:=⟨305,⟨[.str],[]⟩,[],⟨[.int .i64],[]⟩,0,F⟩
def R7(F:Str×Int->Option (zk×Int)):Con I:=⟨272,⟨[.str, .int .i64],[]⟩,[],⟨[.val 129, .int .i64],[]⟩,0,F⟩
def zDn(F:Str×Int×Str->Option Bool):Con I:=⟨273,⟨[.str, .int .i64, .str],[]⟩,[],⟨[.bool],[]⟩,0,F⟩
def dX(F:Str×Str->Option Bool):Con I:=⟨153,⟨[.str, .str],[]⟩,[],⟨[.bool],[]⟩,0,F⟩
def zDm(F:Str×Int->Option (zk×Int)):Con I:=⟨324,⟨[.str, .int .i64],[]⟩,[],⟨[.val 129, .int .i64],[]⟩,0,F⟩
def znt(F:Int->Option Bool):Con I:=⟨325,⟨[.int .u8],[]⟩,[],⟨[.bool],[]⟩,0,F⟩
def zDo(F:Str×Int->Option (zk×Int)):Con I:=⟨306,⟨[.str, .int .i64],[]⟩,[],⟨[.val 129, .int .i64],[]⟩,0,F⟩
def zBk(F:Str×Int->Option (zk×Int)):Con I:=⟨274,⟨[.str, .int .i64],[]⟩,[],⟨[.val 129, .int .i64],[]⟩,0,F⟩
def zBj(F:Int->Option Int):Con I:=⟨275,⟨[.int .u8],[]⟩,[],⟨[.int .u8],[]⟩,0,F⟩
def zDl(F:Str×Int->Option (zk×Int)):Con I:=⟨233,⟨[.str, .int .i64],[]⟩,[],⟨[.val 129, .int .i64],[]⟩,0,F⟩
def UW(F:Int->Option Bool):Con I:=⟨199,⟨[.int .u8],[]⟩,[],⟨[.bool],[]⟩,0,F⟩
def zBm(F:zk->Option Bool):Con I:=⟨152,⟨[.val 129],[]⟩,[],⟨[.bool],[]⟩,0,F⟩
def VW(F:List zk->Option Int):Con I:=⟨105,⟨[.sl 129],[]⟩,[],⟨[.int .i64],[]⟩,0,F⟩
def wB(F:List ze->Option Bool):Con I:=⟨107,⟨[.sl 131],[]⟩,[],⟨[.bool],[]⟩,0,F⟩
def P7(F:List ze->Option (List ze)):Con I:=⟨108,⟨[.sl 131],[]⟩,[],⟨[.sl 131],[]⟩,0,F⟩
def LZ(F:Str->Option Bool):Con I:=⟨109,⟨[.str],[]⟩,[],⟨[.bool],[]⟩,0,F⟩
def KZ(F:Str×List ze->Option Bool):Con I:=⟨73,⟨[.str, .sl 131],[]⟩,[],⟨[.bool],[]⟩,0,F⟩
def NW(F:Zd->Option Int):Con I:=⟨52,⟨[.val 68],[]⟩,[],⟨[.int .i64],[]⟩,0,F⟩
def uV(F:Zd->Option Bool):Con I:=⟨110,⟨[.val 68],[]⟩,[],⟨[.bool],[]⟩,0,F⟩
def FZ(F:zo->Option Bool):Con I:=⟨74,⟨[.val 71],[]⟩,[],⟨[.bool],[]⟩,0,F⟩
def EZ(F:Str->Option Bool):Con I:=⟨154,⟨[.str],[]⟩,[],⟨[.bool],[]⟩,0,F⟩
def zFf(F:Int->Option Bool):Con I:=⟨155,⟨[.int .i64],[]⟩,[],⟨[.bool],[]⟩,0,F⟩
def zDp(F:zo->Option (Bool×Bool)):Con I:=⟨111,⟨[.val 71],[]⟩,[],⟨[.bool, .bool],[]⟩,0,F⟩
def tV(F:zo->Option Bool):Con I:=⟨75,⟨[.val 71],[]⟩,[],⟨[.bool],[]⟩,0,F⟩
def GZ(F:zo->Option Bool):Con I:=⟨53,⟨[.val 71],[]⟩,[],⟨[.bool],[]⟩,0,F⟩
def BA(F:zo->Option Int):Con I:=⟨76,⟨[.val 71],[]⟩,[],⟨[.int .i64],[]⟩,0,F⟩
def VC(F:zo->Option Bool):Con I:=⟨77,⟨[.val 71],[]⟩,[],⟨[.bool],[]⟩,0,F⟩
def zog(F:zo->Option Bool):Con I:=⟨54,⟨[.val 71],[]⟩,[],⟨[.bool],[]⟩,0,F⟩
def DZ(F:List Str->Option Bool):Con I:=⟨55,⟨[.sl 9],[]⟩,[],⟨[.bool],[]⟩,0,F⟩
def OB(F:zK->Option Bool):Con I:=⟨34,⟨[.val 74],[]⟩,[],⟨[.bool],[]⟩,0,F⟩
def FW(F:zw->Option Bool):Con I:=⟨79,⟨[.val 114],[]⟩,[],⟨[.bool],[]⟩,0,F⟩
def MC(F:List zf->Option Int):Con I:=⟨56,⟨[.sl 105],[]⟩,[],⟨[.int .i64],[]⟩,0,F⟩
def znv(F:zK->Option Int):Con I:=⟨57,⟨[.val 74],[]⟩,[],⟨[.int .i64],[]⟩,0,F⟩
def wz(F:List zK->Option Int):Con I:=⟨35,⟨[.sl 74],[]⟩,[],⟨[.int .i64],[]⟩,0,F⟩
def EX(F:List zK->Option Bool):Con I:=⟨20,⟨[.sl 74],[]⟩,[],⟨[.bool],[]⟩,0,F⟩
def sV(F:ZI->Option Int):Con I:=⟨7,⟨[.val 27],[]⟩,[],⟨[.int .i64],[]⟩,0,F⟩
def DX(F:Ze->Option Int):Con I:=⟨17,⟨[.val 24],[]⟩,[],⟨[.int .i64],[]⟩,0,F⟩
def zDh(F:Ze->Option Bool):Con I:=⟨5,⟨[.val 24],[]⟩,[],⟨[.bool],[]⟩,0,F⟩
def zgh(F:List Str->Option Int):Con I:=⟨156,⟨[.sl 9, .clo 115 []],[]⟩,[],⟨[.int .i64],[]⟩,0,F⟩
def zeK(F:List Str->Option Bool):Con I:=⟨114,⟨[.sl 9, .clo 115 []],[]⟩,[],⟨[.bool],[]⟩,0,F⟩
def uW(F:List Str->Option Bool):Con I:=⟨82,⟨[.sl 9],[]⟩,[],⟨[.bool],[]⟩,0,F⟩
def wY(F:List Str->Option Bool):Con I:=⟨81,⟨[.sl 9],[]⟩,[],⟨[.bool],[]⟩,0,F⟩
def zhO(F:List (List Str)->Option Int):Con I:=⟨113,⟨[.sl 78, .clo 81 []],[]⟩,[],⟨[.int .i64],[]⟩,0,F⟩
def zfy(F:List (List Str)->Option Bool):Con I:=⟨80,⟨[.sl 78, .clo 81 []],[]⟩,[],⟨[.bool],[]⟩,0,F⟩
def KC(F:List zf->Option Int):Con I:=⟨83,⟨[.sl 105],[]⟩,[],⟨[.int .i64],[]⟩,0,F⟩
def nX(F:Str->Option Str):Con I:=⟨99,⟨[.str],[]⟩,[],⟨[.str],[]⟩,0,F⟩
def I8(F:Str->Option Bool):Con I:=⟨202,⟨[.str],[]⟩,[],⟨[.bool],[]⟩,0,F⟩
def zol(F:zf×zg×zw->Option Bool):Con I:=⟨237,⟨[.val 105, .optr 0, .optr 1],[(0, .row 169),(1, .row 114)]⟩,[0,1],⟨[.bool],[]⟩,0,F⟩
def zfz(F:List zf×zg×zw->Option Int):Con I:=⟨158,⟨[.sl 105, .clo 237 [0,1]],[(0, .row 169),(1, .row 114)]⟩,[0,1],⟨[.int .i64],[]⟩,0,F⟩
def zdT(F:List zf×zg×zw->Option Bool):Con I:=⟨117,⟨[.sl 105, .clo 237 [0,1]],[(0, .row 169),(1, .row 114)]⟩,[0,1],⟨[.bool],[]⟩,0,F⟩
def O8(F:zw×zg->Option Bool):Con I:=⟨203,⟨[.val 114, .val 169],[]⟩,[],⟨[.bool],[]⟩,0,F⟩
def zoi(F:zI×zg->Option Bool):Con I:=⟨161,⟨[.val 109, .val 169],[]⟩,[],⟨[.bool],[]⟩,0,F⟩
def zpV(F:zI×zg->Option Bool):Con I:=⟨160,⟨[.val 109, .optr 0],[(0, .row 169)]⟩,[0],⟨[.bool],[]⟩,0,F⟩
def zgd(F:List zI×zg->Option Int):Con I:=⟨201,⟨[.sl 109, .clo 160 [0]],[(0, .row 169)]⟩,[0],⟨[.int .i64],[]⟩,0,F⟩
def zeI(F:List zI×zg->Option Bool):Con I:=⟨159,⟨[.sl 109, .clo 160 [0]],[(0, .row 169)]⟩,[0],⟨[.bool],[]⟩,0,F⟩
def ZJ(F:zf×zg×Bool->Option Bool):Con I:=⟨119,⟨[.val 105, .val 169, .bool],[]⟩,[],⟨[.bool],[]⟩,0,F⟩
def zpT(F:zf->Option Bool):Con I:=⟨118,⟨[.val 105],[]⟩,[],⟨[.bool],[]⟩,0,F⟩
def zgT(F:List zf->Option Int):Con I:=⟨158,⟨[.sl 105, .clo 118 []],[]⟩,[],⟨[.int .i64],[]⟩,0,F⟩
def ze5(F:List zf->Option Bool):Con I:=⟨117,⟨[.sl 105, .clo 118 []],[]⟩,[],⟨[.bool],[]⟩,0,F⟩
def uB(F:List zf->Option Int):Con I:=⟨120,⟨[.sl 105],[]⟩,[],⟨[.int .i64],[]⟩,0,F⟩
def O7(F:List zf->Option Int):Con I:=⟨84,⟨[.sl 105],[]⟩,[],⟨[.int .i64],[]⟩,0,F⟩
def Vz(F:List ze×Int->Option zS):Con I:=⟨122,⟨[.sl 131, .int .u8],[]⟩,[],⟨[.val 173],[]⟩,0,F⟩
def zBd(F:List ze->Option Int):Con I:=⟨121,⟨[.sl 131],[]⟩,[],⟨[.int .i64],[]⟩,0,F⟩
def zBe(F:List ze->Option (Int×Int)):Con I:=⟨86,⟨[.sl 131],[]⟩,[],⟨[.int .i64, .int .i64],[]⟩,0,F⟩
def WA(F:List ze×List zk->Option (List zk)):Con I:=⟨162,⟨[.own 0, .sl 131],[(0, .sl 129)]⟩,[],⟨[.own 1],[(1, .sl 129)]⟩,1,F⟩
def eX(F:List ze->Option (List zk)):Con I:=⟨162,⟨[.nilv, .sl 131],[]⟩,[],⟨[.own 0],[(0, .sl 129)]⟩,1,F⟩
def zDi(F:List ze->Option (List zk×Int)):Con I:=⟨123,⟨[.sl 131],[]⟩,[],⟨[.sl 129, .int .i64],[]⟩,0,F⟩
def zA8(F:Str->Option Bool):Con I:=⟨124,⟨[.str],[]⟩,[],⟨[.bool],[]⟩,0,F⟩
def KX(F:Str×Str->Option Bool):Con I:=⟨208,⟨[.str, .str],[]⟩,[],⟨[.bool],[]⟩,0,F⟩
def zBc(F:List zk->Option Int):Con I:=⟨164,⟨[.sl 129],[]⟩,[],⟨[.int .i64],[]⟩,0,F⟩
def zA9(F:List zk->Option Int):Con I:=⟨125,⟨[.sl 129],[]⟩,[],⟨[.int .i64],[]⟩,0,F⟩
def p8(F:ze->Option Bool):Con I:=⟨165,⟨[.val 131],[]⟩,[],⟨[.bool],[]⟩,0,F⟩
def zir(F:List ze->Option Int):Con I:=⟨142,⟨[.sl 131, .clo 165 []],[]⟩,[],⟨[.int .i64],[]⟩,0,F⟩
def zgb(F:List ze->Option Bool):Con I:=⟨127,⟨[.sl 131, .clo 165 []],[]⟩,[],⟨[.bool],[]⟩,0,F⟩
def QY(F:List ze->Option Bool):Con I:=⟨126,⟨[.sl 131],[]⟩,[],⟨[.bool],[]⟩,0,F⟩
def zgU(F:List ze->Option Int):Con I:=⟨142,⟨[.sl 131, .clo 128 []],[]⟩,[],⟨[.int .i64],[]⟩,0,F⟩
def ze6(F:List ze->Option Bool):Con I:=⟨127,⟨[.sl 131, .clo 128 []],[]⟩,[],⟨[.bool],[]⟩,0,F⟩
def zA6(F:Zd->Option Int):Con I:=⟨87,⟨[.val 68],[]⟩,[],⟨[.int .i64],[]⟩,0,F⟩
def VA(F:zo->Option Int):Con I:=⟨88,⟨[.val 71],[]⟩,[],⟨[.int .i64],[]⟩,0,F⟩
def zk1(F:List Str×Str->Option Int):Con I:=⟨278,⟨[.sl 9, .str],[]⟩,[],⟨[.int .i64],[]⟩,0,F⟩
def zim(F:List Str×Str->Option Bool):Con I:=⟨243,⟨[.sl 9, .str],[]⟩,[],⟨[.bool],[]⟩,0,F⟩
def YX(F:Str->Option Bool):Con I:=⟨209,⟨[.str],[]⟩,[],⟨[.bool],[]⟩,0,F⟩
def RX(F:List Int->Option Int):Con I:=⟨244,⟨[.sl 2],[]⟩,[],⟨[.int .i64],[]⟩,0,F⟩
def SX(F:Int->Option Int):Con I:=⟨210,⟨[.int .i64],[]⟩,[],⟨[.int .i64],[]⟩,0,F⟩
def zA5(F:zo->Option Bool):Con I:=⟨168,⟨[.val 71],[]⟩,[],⟨[.bool],[]⟩,0,F⟩
def zC9(F:zo->Option Bool):Con I:=⟨134,⟨[.val 71],[]⟩,[],⟨[.bool],[]⟩,0,F⟩
def znp(F:zo->Option Bool):Con I:=⟨133,⟨[.val 71],[]⟩,[],⟨[.bool],[]⟩,0,F⟩
def zjb(F:List zo->Option Int):Con I:=⟨167,⟨[.sl 71, .clo 133 []],[]⟩,[],⟨[.int .i64],[]⟩,0,F⟩
def zgS(F:List zo->Option Bool):Con I:=⟨132,⟨[.sl 71, .clo 133 []],[]⟩,[],⟨[.bool],[]⟩,0,F⟩
def zpP(F:zo->Option Int):Con I:=⟨89,⟨[.val 71],[]⟩,[],⟨[.int .i64],[]⟩,0,F⟩
def uz(F:zo->Option Int):Con I:=⟨90,⟨[.val 71],[]⟩,[],⟨[.int .i64],[]⟩,0,F⟩
def Wz(F:zo×Int->Option ((Int×Bool)×Int)):Con I:=⟨136,⟨[.val 71, .optr 0],[(0, .row 3)]⟩,[],⟨[.int .i64, .bool],[(0, .row 3)]⟩,0,F⟩
def zmn(F:zo->Option Int):Con I:=⟨91,⟨[.val 71],[]⟩,[],⟨[.int .i64],[]⟩,0,F⟩
def vz(F:List zK->Option zq):Con I:=⟨58,⟨[.sl 74],[]⟩,[],⟨[.val 100],[]⟩,0,F⟩
def wW(F:List zK->Option Int):Con I:=⟨38,⟨[.sl 74],[]⟩,[],⟨[.int .i64],[]⟩,0,F⟩
def AX(F:ZI->Option Int):Con I:=⟨22,⟨[.val 27],[]⟩,[],⟨[.int .i64],[]⟩,0,F⟩
def pW(F:Ze->Option Int):Con I:=⟨28,⟨[.val 24],[]⟩,[],⟨[.int .i64],[]⟩,0,F⟩
def zjc(F:List Zr×Int->Option Int):Con I:=⟨36,⟨[.sl 33, .clo 37 [0]],[(0, .row 3)]⟩,[0],⟨[.int .i64],[]⟩,0,F⟩
def zFg(F:Ze×Int->Option (Int×Int)):Con I:=⟨21,⟨[.val 24, .int .i64],[]⟩,[],⟨[.int .i64, .int .i64],[]⟩,0,F⟩
def zmr(F:List UInt8->Option (List UInt8)):Con I:=⟨59,⟨[.sl 5],[]⟩,[],⟨[.own 0],[(0, .sl 5)]⟩,1,F⟩
def zkZ(F:List zw->Option (List zw)):Con I:=⟨60,⟨[.sl 114],[]⟩,[],⟨[.own 0],[(0, .sl 114)]⟩,1,F⟩
def QK(F:List zf->Option (List zf)):Con I:=⟨39,⟨[.sl 105],[]⟩,[],⟨[.sl 105],[]⟩,0,F⟩
def vC(F:List ze->Option (List ze)):Con I:=⟨61,⟨[.sl 131],[]⟩,[],⟨[.sl 131],[]⟩,0,F⟩
def zpW(F:List Zd->Option (List Zd)):Con I:=⟨40,⟨[.sl 68],[]⟩,[],⟨[.sl 68],[]⟩,0,F⟩
def JC(F:zo->Option zo):Con I:=⟨41,⟨[.val 71],[]⟩,[],⟨[.val 71],[]⟩,0,F⟩
def zk0(F:List Str->Option (List Str)):Con I:=⟨42,⟨[.sl 9],[]⟩,[],⟨[.own 0],[(0, .sl 9)]⟩,1,F⟩
def OC(F:List zK->Option (List zK)):Con I:=⟨24,⟨[.sl 74],[]⟩,[],⟨[.sl 74],[]⟩,0,F⟩
def zBw(F:Ze->Option (Int×List Zr)):Con I:=⟨23,⟨[.val 24],[]⟩,[],⟨[.agi 0 .i64],[(0, .sl 33)]⟩,1,F⟩
def zDr(F:Ze×Int×ZI->Option (Ze×Int)):Con I:=⟨8,⟨[.val 24, .int .i64, .val 27],[]⟩,[],⟨[.val 24, .int .i64],[]⟩,0,F⟩
def yZ(F:Ze->Option Ze):Con I:=⟨23,⟨[.val 24],[]⟩,[],⟨[.val 24],[]⟩,0,F⟩
def zDq(F:Ze×Int->Option (Zr×Int)):Con I:=⟨9,⟨[.val 24, .int .i64],[]⟩,[],⟨[.val 33, .int .i64],[]⟩,0,F⟩
def znu(F:List zw×List zw->Option Bool):Con I:=⟨137,⟨[.sl 114, .sl 114],[]⟩,[],⟨[.bool],[]⟩,0,F⟩
def CW(F:zf×zf->Option Bool):Con I:=⟨92,⟨[.val 105, .val 105],[]⟩,[],⟨[.bool],[]⟩,0,F⟩
def Vp(F:List zf×List zf->Option Bool):Con I:=⟨62,⟨[.sl 105, .sl 105],[]⟩,[],⟨[.bool],[]⟩,0,F⟩
def zBn(F:List Zd×List Zd->Option Bool):Con I:=⟨63,⟨[.sl 68, .sl 68],[]⟩,[],⟨[.bool],[]⟩,0,F⟩
def zpS(F:List (List Str)×List (List Str)->Option Bool):Con I:=⟨65,⟨[.sl 78, .sl 78],[]⟩,[],⟨[.bool],[]⟩,0,F⟩
def FX(F:zK×zK->Option Bool):Con I:=⟨43,⟨[.val 74, .val 74],[]⟩,[],⟨[.bool],[]⟩,0,F⟩
def Tu(F:List zK×List zK->Option Bool):Con I:=⟨26,⟨[.sl 74, .sl 74],[]⟩,[],⟨[.bool],[]⟩,0,F⟩
def V8(F:Zr×Zr->Option Bool):Con I:=⟨11,⟨[.val 33, .val 33],[]⟩,[],⟨[.bool],[]⟩,0,F⟩
def U8(F:List Zr×List Zr->Option Bool):Con I:=⟨25,⟨[.sl 33, .sl 33],[]⟩,[],⟨[.bool],[]⟩,0,F⟩
def zBq(F:Ze×Ze->Option Bool):Con I:=⟨10,⟨[.val 24, .val 24],[]⟩,[],⟨[.bool],[]⟩,0,F⟩
def dO(F:Ze×Int×ZI->Option Bool):Con I:=⟨3,⟨[.val 24, .int .i64, .val 27],[]⟩,[],⟨[.bool],[]⟩,0,F⟩
def zja(F:List Str->Option (List Str)):Con I:=⟨42,⟨[.sl 9],[]⟩,[],⟨[.sl 9],[]⟩,0,F⟩
def zkw(F:List Str->Option (List Str)):Con I:=⟨42,⟨[.sl 9],[]⟩,[],⟨[.sl 9],[]⟩,0,F⟩
def zIy(F:Str->Option (Str×Int)):Con I:=⟨139,⟨[.str],[]⟩,[],⟨[.str, .int .i64],[]⟩,0,F⟩
theorem zHw:zh Tryz.prog (zIy RD):=zGP
def zGg(F:Str×Int->Option Int):Con I:=⟨157,⟨[.str, .int .u8],[]⟩,[],⟨[.int .i64],[]⟩,0,F⟩
theorem zFH:zh Tryz.prog (zGg Ew):=zFt
def zIz(F:Str×Str->Option Int):Con I:=⟨174,⟨[.str, .str],[]⟩,[],⟨[.int .i64],[]⟩,0,F⟩
theorem uE:zh Tryz.prog (zIz om):=zGQ
def zIB(F:Str×Str->Option Str):Con I:=⟨254,⟨[.str, .str],[]⟩,[],⟨[.str],[]⟩,0,F⟩
theorem zHy:zh Tryz.prog (zIB gD):=zGS
def zDg(F:Str×Str->Option Int):Con I:=⟨255,⟨[.str, .str],[]⟩,[],⟨[.int .i64],[]⟩,0,F⟩
theorem zCp:zh Tryz.prog (zDg rE):=zBZ
def zLy(F:Str×Str->Option (Str×Str×Bool)):Con I:=⟨256,⟨[.str, .str],[]⟩,[],⟨[.str, .str, .bool],[]⟩,0,F⟩
theorem zK3:zh Tryz.prog (zLy cutF):=zKL
def zIA(F:List zk->Option (List ze×Int)):Con I:=⟨67,⟨[.sl 129],[]⟩,[],⟨[.sl 131, .int .i64],[]⟩,0,F⟩
theorem vT:zh Tryz.prog (zIA parseF):=zGR
def zGe(F:List zk->Option (VAnb×Int)):Con I:=⟨346,⟨[.sl 129],[]⟩,[],⟨[.val 112, .int .i64],[]⟩,0,F⟩
theorem zFG:zh Tryz.prog (zGe VS):=zh.none (by kernel_rfl)
def zLz(F:(Int×Int)×List Zr->Option (List Zr)):Con I:=⟨27,⟨[.own 0, .int .i64, .int .i64],[(0, .sl 33)]⟩,[],⟨[.own 1],[(1, .sl 33)]⟩,1,F⟩
theorem zK4:zh Tryz.prog (zLz delK):=zKM
theorem ZO:zh Tryz.prog (znA strings_IndexByte):=
 okC Tryz.f116 (memC zFH zu)
theorem eH:zh Tryz.prog (D8 Cq):=
 okC Tryz.f115 (memC ZO zu)
theorem zfe(fu:Nat):zh Tryz.prog (zfB (GQ fu)):=
 okC Tryz.f156 (memC eH zu) (cuts:=[(2,⟨[8],⟨[.int .i64],[]⟩,[0,1,7],[],[],0,[],⟨[],[]⟩,[]⟩)]) (fl:=some fu)
theorem zdE(fu:Nat):zh Tryz.prog (zdV (MQ fu)):=
 okC Tryz.f114 (memC (zfe fu) zu) (fl:=some fu)
theorem M7(fu:Nat):zh Tryz.prog (vY (UL fu)):=
 okC Tryz.f82 (memC (zdE fu) zu) (fl:=some fu)
theorem C9(fu:Nat):zh Tryz.prog (E8 (IM fu)):=
 okC Tryz.f81 (memC (M7 fu) zu) (fl:=some fu)
theorem zgD(fu:Nat):zh Tryz.prog (zgV (BQ fu)):=
 okC Tryz.f113 (memC (C9 fu) zu) (cuts:=[(2,⟨[8],⟨[.int .i64],[]⟩,[0,1,7],[],[],0,[],⟨[],[]⟩,[]⟩)]) (fl:=some fu)
theorem zeR(fu:Nat):zh Tryz.prog (ze7 (EQ fu)):=
 okC Tryz.f80 (memC (zgD fu) zu) (fl:=some fu)
theorem zpx(fu:Nat)(qR:List zf->Option Int)(hs:zh Tryz.prog (UC qR)):zh Tryz.prog (UC (bH fu qR)):=
 okC Tryz.f83 (memC hs zu) (cuts:=[(3,⟨[3,14],⟨[.int .i64, .int .i64],[]⟩,[2,12,13],[],[],0,[3],⟨[.int .i64],[]⟩,[]⟩),(6,⟨[3,21],⟨[.int .i64, .int .i64],[]⟩,[14,19,20],[],[],2,[3],⟨[.int .i64],[]⟩,[]⟩),(9,⟨[3,28],⟨[.int .i64, .int .i64],[]⟩,[21,26,27],[],[],4,[3],⟨[.int .i64],[]⟩,[]⟩)]) (joins:=[(15,⟨[3,28],⟨[.int .i64, .int .i64],[]⟩,[],[],[],0,[],⟨[],[]⟩,[]⟩)]) (fl:=some fu)
theorem zo9(fu:Nat):zh Tryz.prog (UC (qR fu)):=Ag (UC (qR fu)) (bH fu) (fun S h=>zpx fu S h) fu
theorem KH:zh Tryz.prog (BZ Em):=
 okC Tryz.f238 (memC ZO zu)
theorem EC:zh Tryz.prog (K8 QU):=
 okC Tryz.f234 (memC KH zu)
theorem ZV(fu:Nat):zh Tryz.prog (Y4 (Z6 fu)):=
 okC Tryz.f99 zu (cuts:=[(3,⟨[10],⟨[.int .i64],[(0, .sl 5)]⟩,[2,3,8,9],[],[0],0,[],⟨[],[(0, .sl 5)]⟩,[0]⟩)]) (joins:=[(7,⟨[10],⟨[.int .i64],[(0, .sl 5)]⟩,[],[],[0],0,[],⟨[],[]⟩,[]⟩)]) (fl:=some fu)
theorem iO(fu:Nat):zh Tryz.prog (X9 (pG fu)):=
 okC Tryz.f202 (memC EC (memC (ZV fu) zu)) (fl:=some fu)
theorem aO:zh Tryz.prog (L8 Vu):=
 okC Tryz.f235 zu (joins:=[(4,⟨[6],⟨[.bool],[]⟩,[1,5],[0],[],0,[],⟨[],[]⟩,[]⟩),(7,⟨[11],⟨[.bool],[]⟩,[],[],[],0,[],⟨[],[]⟩,[]⟩),(10,⟨[14],⟨[.bool],[]⟩,[],[],[],0,[],⟨[],[]⟩,[]⟩)])
theorem lC:zh Tryz.prog (zoj Qa):=
 okC Tryz.f236 zu (exS:=⟨[.optr 0, .bool],[(0, .row 169)]⟩)
theorem bV:zh Tryz.prog (zA2 Yy):=
 okC Tryz.f276 zu
theorem xL:zh Tryz.prog (zC8 Vo):=
 okC Tryz.f239 (memC bV zu)
theorem zmH(fu:Nat)(zy:zf×zg×Bool->Option Bool)(h_seltext_wholeQ:zh Tryz.prog (ZB zy)):zh Tryz.prog (zny (oO fu zy)):=
 okC Tryz.f237 (memC h_seltext_wholeQ zu) (p:=2) (fl:=some fu)
theorem zeS(fu:Nat)(zy:zf×zg×Bool->Option Bool)(h_seltext_wholeQ:zh Tryz.prog (ZB zy)):zh Tryz.prog (ze8 (CQ fu zy)):=
 okC Tryz.f158 (memC (zmH fu zy h_seltext_wholeQ) zu) (p:=2) (cuts:=[(2,⟨[8],⟨[.int .i64],[]⟩,[0,1,7],[],[],0,[],⟨[],[]⟩,[]⟩)]) (fl:=some fu)
theorem zdk(fu:Nat)(zy:zf×zg×Bool->Option Bool)(h_seltext_wholeQ:zh Tryz.prog (ZB zy)):zh Tryz.prog (zdB (KQ fu zy)):=
 okC Tryz.f117 (memC (zeS fu zy h_seltext_wholeQ) zu) (p:=2) (fl:=some fu)
theorem zo7(fu:Nat)(zy:zf×zg×Bool->Option Bool)(h_seltext_wholeQ:zh Tryz.prog (ZB zy)):zh Tryz.prog (zpU (FO fu zy)):=
 okC Tryz.f203 (memC aO (memC lC (memC (zdk fu zy h_seltext_wholeQ) (memC EC (memC (iO fu) (memC KH (memC xL zu))))))) (joins:=[(8,⟨[],⟨[],[]⟩,[2],[0],[],0,[],⟨[],[]⟩,[]⟩),(15,⟨[89],⟨[.bool],[]⟩,[10,88],[],[],0,[],⟨[],[]⟩,[]⟩)]) (fl:=some fu)
theorem JP(fu:Nat)(zy:zf×zg×Bool->Option Bool)(h_seltext_wholeQ:zh Tryz.prog (ZB zy)):zh Tryz.prog (znw (dH fu zy)):=
 okC Tryz.f161 (memC (iO fu) (memC (zo7 fu zy h_seltext_wholeQ) zu)) (cuts:=[(4,⟨[30],⟨[.int .i64],[]⟩,[2,3,28,29],[0,1],[],0,[],⟨[],[]⟩,[]⟩)]) (fl:=some fu)
theorem znS(fu:Nat)(zy:zf×zg×Bool->Option Bool)(h_seltext_wholeQ:zh Tryz.prog (ZB zy)):zh Tryz.prog (zom (UO fu zy)):=
 okC Tryz.f160 (memC (JP fu zy h_seltext_wholeQ) zu) (p:=1) (fl:=some fu)
theorem zfd(fu:Nat)(zy:zf×zg×Bool->Option Bool)(h_seltext_wholeQ:zh Tryz.prog (ZB zy)):zh Tryz.prog (zfA (IQ fu zy)):=
 okC Tryz.f201 (memC (znS fu zy h_seltext_wholeQ) zu) (p:=1) (cuts:=[(2,⟨[8],⟨[.int .i64],[]⟩,[0,1,7],[],[],0,[],⟨[],[]⟩,[]⟩)]) (fl:=some fu)
theorem zdD(fu:Nat)(zy:zf×zg×Bool->Option Bool)(h_seltext_wholeQ:zh Tryz.prog (ZB zy)):zh Tryz.prog (zdU (NQ fu zy)):=
 okC Tryz.f159 (memC (zfd fu zy h_seltext_wholeQ) zu) (p:=1) (fl:=some fu)
theorem zqG(fu:Nat)(zy:zf×zg×Bool->Option Bool)(hs:zh Tryz.prog (ZB zy)):zh Tryz.prog (ZB (TH fu zy)):=
 okC Tryz.f119 (memC (zdD fu zy hs) zu) (cuts:=[(4,⟨[38],⟨[.int .i64],[]⟩,[3,4,36,37],[0,1],[],0,[],⟨[],[]⟩,[]⟩)]) (fl:=some fu)
theorem fO(fu:Nat):zh Tryz.prog (ZB (zy fu)):=Ag (ZB (zy fu)) (TH fu) (fun S h=>zqG fu S h) fu
theorem znP(fu:Nat):zh Tryz.prog (zoh (VO fu)):=
 okC Tryz.f118 (memC (fO fu) zu) (fl:=some fu)
theorem zfO(fu:Nat):zh Tryz.prog (zgc (wP fu)):=
 okC Tryz.f158 (memC (znP fu) zu) (cuts:=[(2,⟨[8],⟨[.int .i64],[]⟩,[0,1,7],[],[],0,[],⟨[],[]⟩,[]⟩)]) (fl:=some fu)
theorem zd0(fu:Nat):zh Tryz.prog (zeH (PQ fu)):=
 okC Tryz.f117 (memC (zfO fu) zu) (fl:=some fu)
theorem zqE(fu:Nat)(qL:List zf->Option Int)(hs:zh Tryz.prog (LC qL)):zh Tryz.prog (LC (WH fu qL)):=
 okC Tryz.f120 (memC hs zu) (cuts:=[(3,⟨[3,14],⟨[.int .i64, .int .i64],[]⟩,[2,12,13],[],[],0,[3],⟨[.int .i64],[]⟩,[]⟩),(6,⟨[3,21],⟨[.int .i64, .int .i64],[]⟩,[14,19,20],[],[],2,[3],⟨[.int .i64],[]⟩,[]⟩),(9,⟨[3,28],⟨[.int .i64, .int .i64],[]⟩,[21,26,27],[],[],4,[3],⟨[.int .i64],[]⟩,[]⟩)]) (fl:=some fu)
theorem jO(fu:Nat):zh Tryz.prog (LC (qL fu)):=Ag (LC (qL fu)) (WH fu) (fun S h=>zqE fu S h) fu
theorem zql(fu:Nat):zh Tryz.prog (R8 (uM fu)):=
 okC Tryz.f84 (memC (zd0 fu) (memC (jO fu) zu)) (fl:=some fu)
theorem dN:zh Tryz.prog (vW Rj):=
 okC Tryz.f85 zu
theorem Mq:zh Tryz.prog (gX Pj):=
 okC Tryz.f97 zu (joins:=[(7,⟨[6],⟨[.bool],[]⟩,[0],[],[],0,[],⟨[],[]⟩,[]⟩)])
theorem zAv(fu:Nat)(Nj:List ze×Int->Option zS)(hs:zh Tryz.prog (RA Nj)):zh Tryz.prog (RA (OG fu Nj)):=
 okC Tryz.f122 (memC Mq (memC hs zu)) (cuts:=[(3,⟨[12],⟨[.int .i64],[(1, .row 173)]⟩,[1,4,5,10,11],[0],[1],0,[],⟨[],[(1, .row 173)]⟩,[1]⟩)]) (joins:=[(9,⟨[],⟨[],[(1, .row 173)]⟩,[7,8,12],[2],[1],0,[],⟨[],[]⟩,[]⟩),(12,⟨[12],⟨[.int .i64],[(1, .row 173)]⟩,[],[],[1],0,[],⟨[],[]⟩,[]⟩)]) (fl:=some fu) (exS:=⟨[.optr 0],[(0, .row 173)]⟩)
theorem bM(fu:Nat):zh Tryz.prog (RA (Nj fu)):=Ag (RA (Nj fu)) (OG fu) (fun S h=>zAv fu S h) fu
theorem QZ(fu:Nat):zh Tryz.prog (lX (Xk fu)):=
 okC Tryz.f121 (memC (bM fu) zu) (fl:=some fu)
theorem xG(fu:Nat):zh Tryz.prog (kX (ny fu)):=
 okC Tryz.f86 (memC (QZ fu) (memC (bM fu) zu)) (fl:=some fu)
theorem V3(fu:Nat)(ik:List ze×List zk->Option (List zk))(hs:zh Tryz.prog (VB ik)):zh Tryz.prog (VB (BH fu ik)):=
 okC Tryz.f162 (memC Mq (memC hs zu)) (fz:=[(4,[3]),(7,[6])]) (p:=1) (cuts:=[(2,⟨[0,10],⟨[.own 1001, .int .i64],[(1001, .sl 129)]⟩,[4,8,9],[],[],0,[0],⟨[.own 1001],[(1001, .sl 129)]⟩,[1001]⟩)]) (joins:=[(8,⟨[0,10],⟨[.own 1103, .int .i64],[(1103, .sl 129)]⟩,[],[],[],0,[],⟨[],[]⟩,[]⟩)]) (fl:=some fu)
theorem u6(fu:Nat):zh Tryz.prog (VB (ik fu)):=Ag (VB (ik fu)) (BH fu) (fun S h=>V3 fu S h) fu
theorem A7(fu:Nat):zh Tryz.prog (V4 (BM fu)):=
 okC Tryz.f162 (memC Mq (memC (u6 fu) zu)) (fz:=[(4,[3]),(7,[6])]) (cuts:=[(2,⟨[0,10],⟨[.own 1105, .int .i64],[(1105, .sl 129)]⟩,[4,8,9],[],[],0,[0],⟨[.own 1105],[(1105, .sl 129)]⟩,[1105]⟩)]) (joins:=[(8,⟨[0,10],⟨[.own 1207, .int .i64],[(1207, .sl 129)]⟩,[],[],[],0,[],⟨[],[]⟩,[]⟩)]) (fl:=some fu)
theorem dM(fu:Nat):zh Tryz.prog (zBf (aF fu)):=
 okC Tryz.f123 (memC (QZ fu) (memC (A7 fu) zu)) (fl:=some fu)
theorem yP:zh Tryz.prog (zjd stringslite_HasPrefix):=
 okC Tryz.f166 zu
theorem ZN:zh Tryz.prog (znz strings_HasPrefix):=
 okC Tryz.f131 (memC yP zu)
theorem iZ(fu:Nat):zh Tryz.prog (VX (NL fu)):=
 okC Tryz.f124 (memC ZO (memC ZN (memC (ZV fu) zu))) (fl:=some fu)
theorem zh6:zh Tryz.prog (zis stringslite_TrimPrefix):=
 okC Tryz.f277 (memC yP zu)
theorem zlB:zh Tryz.prog (zms strings_TrimPrefix):=
 okC Tryz.f240 (memC zh6 zu)
theorem gM:zh Tryz.prog (zBa uo):=
 okC Tryz.f241 zu
theorem F7:zh Tryz.prog (G5 rz):=
 okC Tryz.f204 (memC zlB (memC gM zu))
theorem cZ:zh Tryz.prog (OX CL):=
 okC Tryz.f242 zu
theorem TV:zh Tryz.prog (zBb Ty):=
 okC Tryz.f205 (memC cZ (memC gM zu))
theorem znU:zh Tryz.prog (zoo strings_Contains):=
 okC Tryz.f206 (memC uE zu)
theorem jL:zh Tryz.prog (zDf Rs):=
 okC Tryz.f163 (memC ZO (memC F7 (memC ZN (memC TV (memC znU zu))))) (joins:=[(8,⟨[3,4,5,6,7,25],⟨[.bool, .bool, .bool, .bool, .bool, .bool],[]⟩,[1,16],[],[],0,[],⟨[],[]⟩,[]⟩),(14,⟨[3,4,5,6,7,63],⟨[.bool, .bool, .bool, .bool, .bool, .bool],[]⟩,[],[],[],0,[],⟨[],[]⟩,[]⟩),(22,⟨[4,5,6,7,94],⟨[.bool, .bool, .bool, .bool, .bool],[]⟩,[3],[],[],0,[],⟨[],[]⟩,[]⟩),(24,⟨[3,4,5,6,7],⟨[.bool, .bool, .bool, .bool, .bool],[]⟩,[1],[0],[],0,[],⟨[],[]⟩,[]⟩)])
theorem vN:zh Tryz.prog (E5 qP):=
 okC Tryz.f207 zu (p:=1)
theorem Qw(fu:Nat):zh Tryz.prog (D5 (QM fu)):=
 okC Tryz.f208 (memC (ZV fu) zu) (fl:=some fu)
theorem bZ(fu:Nat):zh Tryz.prog (MX (BL fu)):=
 okC Tryz.f164 (memC vN (memC (Qw fu) zu)) (joins:=[(11,⟨[5],⟨[.int .i64],[]⟩,[3],[0],[],0,[],⟨[],[]⟩,[]⟩)]) (fl:=some fu)
theorem dZ(fu:Nat):zh Tryz.prog (PX (DL fu)):=
 okC Tryz.f125 (memC jL (memC (bZ fu) zu)) (cuts:=[(4,⟨[10],⟨[.int .i64],[]⟩,[0,8,9],[],[],0,[],⟨[],[]⟩,[]⟩)]) (fl:=some fu)
theorem Mj:zh Tryz.prog (zGf Qs):=
 okC Tryz.f129 zu
theorem zoT(fu:Nat)(Zf:List ze->Option Bool)(h_decl_closersQ:zh Tryz.prog (Qr Zf)):zh Tryz.prog (zpQ (BO fu Zf)):=
 okC Tryz.f165 (memC Mj (memC h_decl_closersQ zu)) (fl:=some fu)
theorem zg1(fu:Nat)(Zf:List ze->Option Bool)(h_decl_closersQ:zh Tryz.prog (Qr Zf)):zh Tryz.prog (zhN (RP fu Zf)):=
 okC Tryz.f142 (memC (zoT fu Zf h_decl_closersQ) zu) (cuts:=[(2,⟨[8],⟨[.int .i64],[]⟩,[0,1,7],[],[],0,[],⟨[],[]⟩,[]⟩)]) (fl:=some fu)
theorem zfa(fu:Nat)(Zf:List ze->Option Bool)(h_decl_closersQ:zh Tryz.prog (Qr Zf)):zh Tryz.prog (zfx (JQ fu Zf)):=
 okC Tryz.f127 (memC (zg1 fu Zf h_decl_closersQ) zu) (fl:=some fu)
theorem d9(fu:Nat)(Zf:List ze->Option Bool)(hs:zh Tryz.prog (Qr Zf)):zh Tryz.prog (Qr (OH fu Zf)):=
 okC Tryz.f126 (memC (zfa fu Zf hs) zu) (fl:=some fu)
theorem O9(fu:Nat):zh Tryz.prog (Qr (Zf fu)):=Ag (Qr (Zf fu)) (OH fu) (fun S h=>d9 fu S h) fu
theorem vL:zh Tryz.prog (zDd Tx):=
 okC Tryz.f130 (memC Mj zu)
theorem xN:zh Tryz.prog (J5 Su):=
 okC Tryz.f128 (memC Mj (memC vL zu))
theorem zfQ(fu:Nat):zh Tryz.prog (zge (vP fu)):=
 okC Tryz.f142 (memC xN zu) (cuts:=[(2,⟨[8],⟨[.int .i64],[]⟩,[0,1,7],[],[],0,[],⟨[],[]⟩,[]⟩)]) (fl:=some fu)
theorem zd2(fu:Nat):zh Tryz.prog (zeJ (OQ fu)):=
 okC Tryz.f127 (memC (zfQ fu) zu) (fl:=some fu)
theorem yG(fu:Nat):zh Tryz.prog (WX (xy fu)):=
 okC Tryz.f87 (memC (dM fu) (memC (iZ fu) (memC (dZ fu) (memC (O9 fu) (memC (zd2 fu) (memC ZN (memC Mj zu))))))) (fl:=some fu)
theorem J3(fu:Nat)(ak:zo->Option Int)(hs:zh Tryz.prog (NB ak)):zh Tryz.prog (NB (oG fu ak)):=
 okC Tryz.f88 (memC hs zu) (cuts:=[(5,⟨[3,17],⟨[.int .i64, .int .i64],[]⟩,[15,16],[],[],0,[3],⟨[.int .i64],[]⟩,[]⟩)]) (joins:=[(4,⟨[3],⟨[.int .i64],[]⟩,[1],[0],[],0,[],⟨[],[]⟩,[]⟩)]) (fl:=some fu)
theorem G6(fu:Nat):zh Tryz.prog (NB (ak fu)):=Ag (NB (ak fu)) (oG fu) (fun S h=>J3 fu S h) fu
theorem ek:zh Tryz.prog (zDa Qe):=
 okC Tryz.f135 zu
theorem FI(fu:Nat):zh Tryz.prog (zkx (oC fu)):=
 okC Tryz.f278 zu (cuts:=[(2,⟨[8],⟨[.int .i64],[]⟩,[0,1,7],[],[],0,[],⟨[],[]⟩,[]⟩)]) (fl:=some fu)
theorem zg0(fu:Nat):zh Tryz.prog (zhM (VP fu)):=
 okC Tryz.f243 (memC (FI fu) zu) (fl:=some fu)
theorem yN(fu:Nat):zh Tryz.prog (O4 (aG fu)):=
 okC Tryz.f209 (memC (zg0 fu) (memC (ZV fu) (memC ZO zu))) (fz:=[(1,[0])]) (fl:=some fu)
theorem G7(fu:Nat):zh Tryz.prog (H5 (FM fu)):=
 okC Tryz.f244 zu (cuts:=[(2,⟨[7],⟨[.int .i64],[]⟩,[5,6],[],[],0,[],⟨[],[]⟩,[]⟩)]) (fl:=some fu)
theorem wN(fu:Nat):zh Tryz.prog (I5 (PG fu)):=
 okC Tryz.f210 (memC (G7 fu) zu) (fz:=[(1,[1])]) (fl:=some fu)
theorem jZ(fu:Nat):zh Tryz.prog (XX (GG fu)):=
 okC Tryz.f168 (memC ek (memC (yN fu) (memC (wN fu) zu))) (cuts:=[(4,⟨[23],⟨[.int .i64],[]⟩,[21,22],[],[],0,[],⟨[],[]⟩,[]⟩)]) (joins:=[(17,⟨[57],⟨[.bool],[]⟩,[4,23],[1],[],0,[],⟨[],[]⟩,[]⟩),(19,⟨[23],⟨[.int .i64],[]⟩,[],[],[],0,[],⟨[],[]⟩,[]⟩)]) (fl:=some fu)
theorem jM:zh Tryz.prog (zA4 Mt):=
 okC Tryz.f169 zu
theorem aV(fu:Nat):zh Tryz.prog (zA3 (YK fu)):=
 okC Tryz.f134 (memC ek (memC (jZ fu) (memC jM zu))) (fl:=some fu)
theorem zlj(fu:Nat):zh Tryz.prog (zmm (sO fu)):=
 okC Tryz.f133 (memC (aV fu) zu) (fl:=some fu)
theorem zh3(fu:Nat):zh Tryz.prog (zio (bP fu)):=
 okC Tryz.f167 (memC (zlj fu) zu) (cuts:=[(2,⟨[8],⟨[.int .i64],[]⟩,[0,1,7],[],[],0,[],⟨[],[]⟩,[]⟩)]) (fl:=some fu)
theorem zfM(fu:Nat):zh Tryz.prog (zga (xP fu)):=
 okC Tryz.f132 (memC (zh3 fu) zu) (fl:=some fu)
theorem znN(fu:Nat):zh Tryz.prog (zod (cO fu)):=
 okC Tryz.f89 (memC (zfM fu) (memC ek zu)) (fl:=some fu)
theorem XY(fu:Nat)(Sk:zo->Option Int)(hs:zh Tryz.prog (TA Sk)):zh Tryz.prog (TA (iG fu Sk)):=
 okC Tryz.f90 (memC (xG fu) (memC hs zu)) (cuts:=[(9,⟨[5,27],⟨[.int .i64, .int .i64],[]⟩,[2,25,26],[],[],1,[5],⟨[.int .i64],[]⟩,[]⟩)]) (joins:=[(14,⟨[5,8],⟨[.int .i64, .int .i64],[]⟩,[27],[],[],0,[],⟨[],[]⟩,[]⟩)]) (fl:=some fu)
theorem AY(fu:Nat):zh Tryz.prog (TA (Sk fu)):=Ag (TA (Sk fu)) (iG fu) (fun S h=>XY fu S h) fu
theorem wL:zh Tryz.prog (zDb Ht):=
 okC Tryz.f170 zu
theorem zAu(fu:Nat)(Rk:zo×Int->Option ((Int×Bool)×Int))(hs:zh Tryz.prog (SA Rk)):zh Tryz.prog (SA (bG fu Rk)):=
 okC Tryz.f136 (memC (xG fu) (memC (yG fu) (memC ek (memC hs (memC wL zu))))) (p:=1) (cuts:=[(19,⟨[9,97],⟨[.int .i64, .int .i64],[(0, .row 3)]⟩,[1,95,96],[],[0],1,[9],⟨[.int .i64],[(0, .row 3)]⟩,[0]⟩)]) (joins:=[(15,⟨[69],⟨[.bool],[]⟩,[1,2,6],[0,1],[],0,[],⟨[],[]⟩,[]⟩),(26,⟨[9,12],⟨[.int .i64, .int .i64],[]⟩,[97],[0],[],0,[],⟨[],[]⟩,[]⟩)]) (fl:=some fu)
theorem YV(fu:Nat):zh Tryz.prog (SA (Rk fu)):=Ag (SA (Rk fu)) (bG fu) (fun S h=>zAu fu S h) fu
theorem kP(fu:Nat):zh Tryz.prog (zkT (mH fu)):=
 okC Tryz.f91 (memC (YV fu) zu) (fl:=some fu)
theorem YY(fu:Nat)(Tk:List zK->Option zq)(hs:zh Tryz.prog (UA Tk)):zh Tryz.prog (UA (jG fu Tk)):=
 okC Tryz.f58 (memC hs (memC (zeR fu) (memC (zo9 fu) (memC (zql fu) (memC dN (memC (xG fu) (memC (yG fu) (memC (G6 fu) (memC (znN fu) (memC (AY fu) (memC (kP fu) zu))))))))))) (cuts:=[(3,⟨[18],⟨[.int .i64],[(1, .row 100)]⟩,[2,3,16,17],[0],[1],0,[],⟨[],[(1, .row 100)]⟩,[1]⟩),(17,⟨[10,87],⟨[.bool, .int .i64],[(3, .row 100)]⟩,[6,7,18,85,86],[1],[3],3,[10],⟨[.bool],[(3, .row 100)]⟩,[3]⟩)]) (joins:=[(35,⟨[7,10],⟨[.int .i64, .bool],[(1, .row 100),(3, .row 100)]⟩,[6,18],[],[1,3],0,[],⟨[],[]⟩,[]⟩)]) (fl:=some fu) (exS:=⟨[.optr 0],[(0, .row 100)]⟩)
theorem FY(fu:Nat):zh Tryz.prog (UA (Tk fu)):=Ag (UA (Tk fu)) (jG fu) (fun S h=>YY fu S h) fu
theorem F6(fu:Nat):zh Tryz.prog (yY (WL fu)):=
 okC Tryz.f38 (memC (FY fu) zu) (fl:=some fu)
theorem H6(fu:Nat):zh Tryz.prog (AZ (XL fu)):=
 okC Tryz.f22 (memC (F6 fu) zu) (fl:=some fu)
theorem OO(fu:Nat):zh Tryz.prog (M0 (RG fu)):=
 okC Tryz.f28 (memC (H6 fu) zu) (cuts:=[(5,⟨[3,23],⟨[.int .i64, .int .i64],[]⟩,[1,21,22],[0],[],0,[],⟨[],[]⟩,[]⟩)]) (fl:=some fu)
theorem zg3(fu:Nat):zh Tryz.prog (zhP (MI fu)):=
 okC Tryz.f140 (memC ZN (memC uE zu)) (p:=1) (cuts:=[(0,⟨[],⟨[],[(0, .row 191)]⟩,[0],[],[0],0,[],⟨[],[(0, .row 191)]⟩,[0]⟩)]) (fl:=some fu)
theorem Zc:zh Tryz.prog (zmv zB):=
 okC Tryz.f175 zu (p:=1)
theorem ku:zh Tryz.prog (kW yo):=
 okC Tryz.f176 zu
theorem EI(fu:Nat):zh Tryz.prog (zkB (Qf fu)):=
 okC Tryz.f177 (memC Zc (memC ku zu)) (p:=1) (cuts:=[(0,⟨[],⟨[],[(0, .row 191)]⟩,[0,1],[],[0],0,[],⟨[],[(0, .row 191)]⟩,[0]⟩)]) (fl:=some fu)
theorem zfU:zh Tryz.prog (zgi rP):=
 okC Tryz.f286 zu (fz:=[(2,[1]),(4,[9]),(7,[14]),(9,[19])]) (joins:=[(7,⟨[25],⟨[.bool],[]⟩,[0,1,5],[],[],0,[],⟨[],[]⟩,[]⟩)])
theorem zmI:zh Tryz.prog (znB YH):=
 okC Tryz.f251 (memC zfU zu) (fz:=[(2,[3])])
theorem fB:zh Tryz.prog (wZ Uu):=
 okC Tryz.f253 zu
theorem lu:zh Tryz.prog (mW ll):=
 okC Tryz.f217 (memC fB zu)
theorem dL:zh Tryz.prog (zDt Us):=
 okC Tryz.f252 (memC lu (memC fB zu))
theorem zgG(fu:Nat):zh Tryz.prog (zgW (AQ fu)):=
 okC Tryz.f215 (memC Zc (memC zmI (memC dL (memC ku zu)))) (fz:=[(7,[3])]) (p:=1) (cuts:=[(10,⟨[6,36],⟨[.int .i64, .int .i64],[(0, .row 191)]⟩,[0,1,4],[],[0],0,[6],⟨[.int .i64],[(0, .row 191)]⟩,[0]⟩)]) (joins:=[(17,⟨[6],⟨[.int .i64],[(0, .row 191)]⟩,[1],[],[0],0,[],⟨[],[]⟩,[]⟩),(19,⟨[6],⟨[.int .i64],[]⟩,[],[0],[],0,[],⟨[],[]⟩,[]⟩)]) (fl:=some fu)
theorem zfV:zh Tryz.prog (zgj oP):=
 okC Tryz.f286 zu (fz:=[(2,[1]),(4,[9]),(7,[14]),(9,[19])]) (p:=1) (joins:=[(7,⟨[25],⟨[.bool],[(0, .sl 5)]⟩,[0,1,5],[],[0],0,[],⟨[],[]⟩,[]⟩)])
theorem zmJ:zh Tryz.prog (znC XH):=
 okC Tryz.f251 (memC zfV zu) (fz:=[(2,[3])]) (p:=1)
theorem Qx(fu:Nat):zh Tryz.prog (zgX (qY fu)):=
 okC Tryz.f215 (memC Zc (memC zmJ (memC dL (memC ku zu)))) (fz:=[(7,[3])]) (p:=2) (cuts:=[(10,⟨[6,36],⟨[.int .i64, .int .i64],[(0, .row 191)]⟩,[0,1,4],[1],[0],0,[6],⟨[.int .i64],[(0, .row 191)]⟩,[0]⟩)]) (joins:=[(17,⟨[6],⟨[.int .i64],[(0, .row 191),(1, .sl 5)]⟩,[1],[],[0,1],0,[],⟨[],[]⟩,[]⟩),(19,⟨[6],⟨[.int .i64],[(1, .sl 5)]⟩,[],[0],[1],0,[],⟨[],[]⟩,[]⟩)]) (fl:=some fu)
theorem ziT(fu:Nat):zh Tryz.prog (zje (NP fu)):=
 okC Tryz.f178 (memC Zc (memC (Qx fu) zu)) (fz:=[(5,[3])]) (p:=1) (cuts:=[(4,⟨[4],⟨[.own 1208],[(0, .row 191),(1, .row 129),(1208, .sl 5)]⟩,[0,2,3],[],[0,1],0,[4],⟨[.own 1208],[(0, .row 191),(1, .row 129),(1208, .sl 5)]⟩,[0,1,1208]⟩)]) (fl:=some fu) (exS:=⟨[.optr 1],[(0, .row 191),(1, .row 129)]⟩)
theorem YN:zh Tryz.prog (lW ay):=
 okC Tryz.f216 (memC fB zu)
theorem MO:zh Tryz.prog (xZ WG):=
 okC Tryz.f179 (memC YN (memC lu zu))
theorem qp:zh Tryz.prog (zky Z5):=
 okC Tryz.f180 (memC Zc zu) (p:=1)
theorem KP:zh Tryz.prog (zmu QX):=
 okC Tryz.f181 (memC Zc (memC YN (memC qp zu))) (p:=1)
theorem JI(fu:Nat):zh Tryz.prog (zk4 (QB fu)):=
 okC Tryz.f182 (memC Zc (memC MO (memC qp (memC (Qx fu) zu)))) (fz:=[(5,[3])]) (p:=1) (cuts:=[(2,⟨[3],⟨[.own 1209],[(0, .row 191),(1209, .sl 5)]⟩,[0],[],[0],0,[],⟨[],[]⟩,[]⟩)]) (fl:=some fu)
theorem zjF:zh Tryz.prog (zkA CP):=
 okC Tryz.f183 (memC Zc (memC lu zu)) (p:=1) (joins:=[(5,⟨[3],⟨[.int .i64],[]⟩,[0],[],[],0,[],⟨[],[]⟩,[]⟩),(7,⟨[3],⟨[.int .i64],[]⟩,[],[],[],0,[],⟨[],[]⟩,[]⟩)])
theorem zh9(fu:Nat):zh Tryz.prog (ziv (QE fu)):=
 okC Tryz.f177 (memC Zc (memC lu zu)) (p:=1) (cuts:=[(0,⟨[],⟨[],[(0, .row 191)]⟩,[0,1],[],[0],0,[],⟨[],[(0, .row 191)]⟩,[0]⟩)]) (fl:=some fu)
theorem zh7(fu:Nat):zh Tryz.prog (zit (YP fu)):=
 okC Tryz.f218 (memC Zc (memC (zh9 fu) (memC lu zu))) (p:=1) (joins:=[(4,⟨[],⟨[],[(0, .row 191)]⟩,[0],[],[0],0,[],⟨[],[]⟩,[]⟩),(10,⟨[4],⟨[.bool],[(0, .row 191)]⟩,[],[],[0],0,[],⟨[],[]⟩,[]⟩),(15,⟨[4,5],⟨[.bool, .int .i64],[(0, .row 191)]⟩,[],[],[0],0,[],⟨[],[]⟩,[]⟩),(19,⟨[4],⟨[.bool],[(0, .row 191)]⟩,[],[],[0],0,[],⟨[],[]⟩,[]⟩)]) (fl:=some fu)
theorem zlF(fu:Nat):zh Tryz.prog (zmx (tO fu)):=
 okC Tryz.f219 (memC zHy (memC zCp (memC zK3 zu))) (cuts:=[(8,⟨[6,31],⟨[.int .i64, .int .i64],[]⟩,[0,2,3,4,5,29,30],[0],[],0,[6],⟨[.int .i64],[]⟩,[]⟩),(22,⟨[12,81],⟨[.int .i64, .int .i64],[]⟩,[4,79,80],[0],[],2,[12],⟨[.int .i64],[]⟩,[]⟩),(26,⟨[4,12],⟨[.int .i64, .int .i64],[]⟩,[],[],[],4,[12],⟨[.int .i64],[]⟩,[]⟩)]) (joins:=[(14,⟨[0,4,6],⟨[.str, .int .i64, .int .i64],[]⟩,[3,5],[],[],0,[],⟨[],[]⟩,[]⟩),(15,⟨[0,4],⟨[.str, .int .i64],[]⟩,[3],[],[],0,[],⟨[],[]⟩,[]⟩),(20,⟨[0,4],⟨[.str, .int .i64],[]⟩,[],[],[],0,[],⟨[],[]⟩,[]⟩),(31,⟨[12],⟨[.int .i64],[]⟩,[],[],[],0,[],⟨[],[]⟩,[]⟩)]) (fl:=some fu)
theorem zh8(fu:Nat):zh Tryz.prog (ziu (XP fu)):=
 okC Tryz.f184 (memC (zh7 fu) (memC (zlF fu) (memC KP (memC (JI fu) (memC Zc zu))))) (p:=1) (joins:=[(9,⟨[],⟨[],[(0, .row 191),(1, .row 129),(2, .row 129)]⟩,[2,5],[],[0,1,2],0,[],⟨[],[]⟩,[]⟩)]) (fl:=some fu) (exS:=⟨[.optr 1],[(0, .row 191),(1, .row 129)]⟩)
theorem zlD(fu:Nat):zh Tryz.prog (zmt (WC fu)):=
 okC Tryz.f257 (memC Zc (memC qp (memC (zgG fu) zu))) (p:=1) (cuts:=[(1,⟨[],⟨[],[(0, .row 191),(1, .row 129)]⟩,[0,2],[],[0,1],0,[],⟨[],[]⟩,[]⟩)]) (fl:=some fu) (exS:=⟨[.optr 1],[(0, .row 191),(1, .row 129)]⟩)
theorem zlE(fu:Nat):zh Tryz.prog (zmw (uO fu)):=
 okC Tryz.f220 (memC (EI fu) (memC Zc (memC ku (memC (zlD fu) (memC fB (memC qp (memC (Qx fu) zu))))))) (fz:=[(18,[3])]) (p:=1) (cuts:=[(3,⟨[3],⟨[.own 1210],[(0, .row 191),(1, .row 129),(1210, .sl 5)]⟩,[0,2],[],[0,1],0,[],⟨[],[]⟩,[]⟩)]) (joins:=[(10,⟨[3,4],⟨[.own 1210, .int .i64],[(0, .row 191),(1, .row 129),(1210, .sl 5)]⟩,[],[],[0,1,1210],0,[],⟨[],[]⟩,[]⟩)]) (fl:=some fu) (exS:=⟨[.optr 1],[(0, .row 191),(1, .row 129)]⟩)
theorem zjE(fu:Nat):zh Tryz.prog (zkz (EP fu)):=
 okC Tryz.f185 (memC (JI fu) (memC Zc (memC (Qw fu) (memC (EI fu) (memC (zlE fu) zu))))) (p:=1) (joins:=[(11,⟨[],⟨[],[(0, .row 191),(1, .row 129)]⟩,[2,3],[],[0,1],0,[],⟨[],[]⟩,[]⟩)]) (fl:=some fu) (exS:=⟨[.optr 1],[(0, .row 191),(1, .row 129)]⟩)
theorem zkO(fu:Nat):zh Tryz.prog (zk3 (xO fu)):=
 okC Tryz.f141 (memC Zc (memC ku (memC (EI fu) (memC (ziT fu) (memC MO (memC qp (memC KP (memC (JI fu) (memC zjF (memC (zh8 fu) (memC ZN (memC (zjE fu) (memC ZO zu))))))))))))) (p:=1) (fl:=some fu) (exS:=⟨[.optr 1],[(0, .row 191),(1, .row 129)]⟩)
theorem znV:zh Tryz.prog (zop PO):=
 okC Tryz.f95 zu (fz:=[(1,[2])]) (p:=2)
theorem zr2(fu:Nat):zh Tryz.prog (l7 (TM fu)):=
 okC Tryz.f94 (memC zHw (memC (zg3 fu) (memC (zkO fu) (memC znV zu)))) (p:=1) (cuts:=[(7,⟨[7],⟨[.int .i64],[(0, .cells 120 [.own 1211]),(1211, .sl 129),(1, .row 191)]⟩,[0,1,6],[],[0,1],0,[],⟨[],[(0, .cells 120 [.own 1211]),(1211, .sl 129),(1, .row 191)]⟩,[0,1,1211]⟩)]) (fl:=some fu)
theorem WO(fu:Nat):zh Tryz.prog (u7 (nA fu)):=
 okC Tryz.f66 (memC (zr2 fu) zu) (fl:=some fu)
theorem fV:zh Tryz.prog (zBs eF):=
 okC Tryz.f98 zu
theorem zkM(fu:Nat):zh Tryz.prog (zk2 (yO fu)):=
 okC Tryz.f186 zu (p:=1) (cuts:=[(2,⟨[8],⟨[.int .i64],[]⟩,[0,1,7],[],[],0,[],⟨[],[]⟩,[]⟩)]) (fl:=some fu)
theorem zh2(fu:Nat):zh Tryz.prog (zin (dP fu)):=
 okC Tryz.f144 (memC (zkM fu) zu) (p:=1) (fl:=some fu)
theorem zqr(fu:Nat):zh Tryz.prog (V9 (pM fu)):=
 okC Tryz.f143 (memC (zh2 fu) zu) (p:=2) (fl:=some fu)
theorem zfR(fu:Nat):zh Tryz.prog (zgf (uP fu)):=
 okC Tryz.f142 (memC (zqr fu) zu) (p:=2) (cuts:=[(2,⟨[8],⟨[.int .i64],[]⟩,[0,1,7],[],[],0,[],⟨[],[]⟩,[]⟩)]) (fl:=some fu)
theorem J7(fu:Nat):zh Tryz.prog (tY (RL fu)):=
 okC Tryz.f100 (memC (zfR fu) zu) (p:=1) (fl:=some fu)
theorem qI:zh Tryz.prog (zkY Zv):=
 okC Tryz.f297 zu (p:=1) (exS:=⟨[.optr 1],[(1, .row 129)]⟩)
theorem Q4(fu:Nat):zh Tryz.prog (zil (Zw fu)):=
 okC Tryz.f295 (memC qI zu) (p:=1) (cuts:=[(2,⟨[],⟨[],[(0, .row 325)]⟩,[0,2,3],[],[0],0,[],⟨[],[(0, .row 325)]⟩,[0]⟩)]) (fl:=some fu)
theorem KI:zh Tryz.prog (zkV Qz):=
 okC Tryz.f298 (memC qI zu) (p:=1)
theorem zjy(fu:Nat):zh Tryz.prog (zku (DI fu)):=
 okC Tryz.f296 (memC KI (memC (Q4 fu) zu)) (p:=1) (cuts:=[(2,⟨[4],⟨[.int .i64],[(0, .row 325)]⟩,[0],[],[0],0,[],⟨[],[(0, .row 325)]⟩,[0]⟩)]) (fl:=some fu)
theorem zkG:zh Tryz.prog (zkX tH):=
 okC Tryz.f317 zu (p:=1)
theorem jP:zh Tryz.prog (zkW QA):=
 okC Tryz.f300 zu (p:=1)
theorem I9(fu:Nat):zh Tryz.prog (M8 (KM fu)):=
 okC Tryz.f316 (memC (Q4 fu) (memC qI (memC (ZV fu) (memC jP (memC KI (memC uE (memC (Qw fu) zu))))))) (joins:=[(20,⟨[],⟨[],[(0, .cells 114 [.int .u8, .str, .int .u8, .str, .bool, .int .i64, .int .i64, .bool, .nilv]),(1, .row 325),(2, .cells 114 [.int .u8, .str, .int .u8, .str, .bool, .int .i64, .int .i64, .bool, .nilv])]⟩,[2,4,5],[],[0,1,2],0,[],⟨[],[]⟩,[]⟩)]) (fl:=some fu) (exS:=⟨[.optr 0, .bool],[(0, .row 114)]⟩)
theorem YO:zh Tryz.prog (J8 mG):=
 okC Tryz.f336 zu (fz:=[(1,[0])])
theorem F9(fu:Nat):zh Tryz.prog (H8 (JM fu)):=
 okC Tryz.f318 (memC (ZV fu) (memC YO (memC (FI fu) zu))) (fl:=some fu) (exS:=⟨[.optr 0, .bool],[(0, .row 114)]⟩)
theorem zqm(fu:Nat):zh Tryz.prog (P8 (sM fu)):=
 okC Tryz.f345 (memC (Qw fu) zu) (fl:=some fu)
theorem zfS(fu:Nat):zh Tryz.prog (zgg (sP fu)):=
 okC Tryz.f142 (memC (zqm fu) zu) (cuts:=[(2,⟨[8],⟨[.int .i64],[]⟩,[0,1,7],[],[],0,[],⟨[],[]⟩,[]⟩)]) (fl:=some fu)
theorem I6(fu:Nat)(zQ:List ze×zg×Bool×Bool->Option (List zf×Bool))(h_seltext_partsQ:zh Tryz.prog (qC zQ)):zh Tryz.prog (CZ (YL fu zQ)):=
 okC Tryz.f337 (memC (zfS fu) (memC lC (memC h_seltext_partsQ (memC (dM fu) (memC zFG zu))))) (joins:=[(8,⟨[1],⟨[.sl 131],[(0, .row 114),(2, .cells 114 [.int .u8, .str, .int .u8, .str, .bool, .int .i64, .int .i64, .bool, .nilv])]⟩,[3,6],[],[0,2],0,[],⟨[],[]⟩,[]⟩)]) (fl:=some fu) (exS:=⟨[.optr 0, .bool],[(0, .row 114)]⟩)
theorem zmG(fu:Nat)(zQ:List ze×zg×Bool×Bool->Option (List zf×Bool))(h_seltext_partsQ:zh Tryz.prog (qC zQ)):zh Tryz.prog (znx (pO fu zQ)):=
 okC Tryz.f319 (memC YO (memC (ZV fu) (memC (FI fu) (memC (I6 fu zQ h_seltext_partsQ) (memC lC (memC h_seltext_partsQ zu)))))) (fl:=some fu) (exS:=⟨[.optr 0, .bool],[(0, .row 114)]⟩)
theorem zgZ(fu:Nat)(zQ:List ze×zg×Bool×Bool->Option (List zf×Bool))(h_seltext_partsQ:zh Tryz.prog (qC zQ)):zh Tryz.prog (zhL (WP fu zQ)):=
 okC Tryz.f299 (memC qI (memC zkG (memC (I9 fu) (memC (F9 fu) (memC (zmG fu zQ h_seltext_partsQ) zu))))) (fz:=[(24,[2])]) (p:=1) (cuts:=[(2,⟨[6],⟨[.own 1323],[(0, .row 325),(1323, .sl 114)]⟩,[0,3],[1],[0],0,[],⟨[],[]⟩,[]⟩)]) (joins:=[(21,⟨[8],⟨[.bool],[(0, .row 325),(1324, .row 114)]⟩,[6,7],[1323],[0,1324],0,[],⟨[],[]⟩,[]⟩),(22,⟨[6,8],⟨[.own 1323, .bool],[(0, .row 325),(1323, .sl 114),(1324, .row 114)]⟩,[7],[],[0,1323,1324],0,[],⟨[],[]⟩,[]⟩)]) (fl:=some fu)
theorem zlw(fu:Nat)(zQ:List ze×zg×Bool×Bool->Option (List zf×Bool))(h_seltext_partsQ:zh Tryz.prog (qC zQ)):zh Tryz.prog (zmp (wO fu zQ)):=
 okC Tryz.f258 (memC (Q4 fu) (memC (zjy fu) (memC qI (memC (ZV fu) (memC KI (memC (zgZ fu zQ h_seltext_partsQ) (memC (JP fu (zy fu) (fO fu)) (memC jP zu)))))))) (fz:=[(19,[3]),(27,[3])]) (cuts:=[(8,⟨[],⟨[],[(1, .cells 105 [.int .u8, .nilv, .nilv]),(2, .row 325),(3, .cells 105 [.int .u8, .own 1324, .own 1325]),(1324, .sl 109),(1325, .sl 5)]⟩,[],[],[1,2,3],0,[],⟨[],[(1, .cells 105 [.int .u8, .nilv, .nilv]),(2, .row 325),(3, .cells 105 [.int .u8, .own 1326, .own 1325]),(1326, .sl 109),(1325, .sl 5)]⟩,[1,2,3,1325]⟩)]) (joins:=[(8,⟨[],⟨[],[(1, .cells 105 [.int .u8, .nilv, .nilv]),(2, .row 325),(3, .cells 105 [.int .u8, .nilv, .nilv])]⟩,[4,6,8,9],[0],[1,2,3],0,[],⟨[],[]⟩,[]⟩),(15,⟨[],⟨[],[(1, .cells 105 [.int .u8, .nilv, .nilv]),(2, .row 325),(3, .cells 105 [.int .u8, .own 1324, .own 1325]),(1324, .sl 109),(1325, .sl 5),(1326, .cells 109 [.str, .nilv])]⟩,[10],[],[1,2,3,1324,1325,1326],0,[],⟨[],[]⟩,[]⟩),(27,⟨[14],⟨[.int .u8],[(1, .cells 105 [.int .u8, .nilv, .nilv]),(3, .cells 105 [.int .u8, .own 1328, .own 1325]),(1328, .sl 109),(1325, .sl 5)]⟩,[],[2,1326],[1,3,1325,1328],0,[],⟨[],[]⟩,[]⟩)]) (fl:=some fu) (exS:=⟨[.optr 0, .bool],[(0, .row 105)]⟩)
theorem zqF(fu:Nat)(zQ:List ze×zg×Bool×Bool->Option (List zf×Bool))(hs:zh Tryz.prog (qC zQ)):zh Tryz.prog (qC (VH fu zQ)):=
 okC Tryz.f221 (memC (zlw fu zQ hs) zu) (fz:=[(9,[2])]) (cuts:=[(4,⟨[10,11,18],⟨[.own 1219, .int .i64, .int .i64],[(1219, .sl 105)]⟩,[0,2,3,5,17],[0],[],0,[10],⟨[.own 1219],[(1219, .sl 105)]⟩,[1219]⟩)]) (joins:=[(12,⟨[10],⟨[.own 1321],[(1321, .sl 105)]⟩,[12,18],[],[],0,[],⟨[],[]⟩,[]⟩),(13,⟨[10,11,18],⟨[.own 1322, .int .i64, .int .i64],[(1322, .sl 105)]⟩,[],[],[],0,[],⟨[],[]⟩,[]⟩)]) (fl:=some fu)
theorem zqn(fu:Nat):zh Tryz.prog (qC (zQ fu)):=Ag (qC (zQ fu)) (VH fu) (fun S h=>zqF fu S h) fu
theorem JY(fu:Nat):zh Tryz.prog (BX (uK fu)):=
 okC Tryz.f187 (memC (QZ fu) (memC (zqn fu) (memC (jO fu) zu))) (fl:=some fu)
theorem zjG(fu:Nat):zh Tryz.prog (MP (PP fu)):=
 okC Tryz.f261 zu (fl:=some fu)
theorem zkI(fu:Nat):zh Tryz.prog (MP (rH fu)):=(zjG fu).le (zkD fu)
theorem zAw(fu:Nat)(Ri:List ze->Option (List ze))(hs:zh Tryz.prog (OA Ri)):zh Tryz.prog (OA (NG fu Ri)):=
 okC Tryz.f223 (memC (zkI fu) (memC hs zu)) (cuts:=[(3,⟨[8],⟨[.int .i64],[(0, .sl 131)]⟩,[0,2,7],[],[0],0,[],⟨[],[(0, .sl 131)]⟩,[0]⟩)]) (fl:=some fu)
theorem aM(fu:Nat):zh Tryz.prog (OA (Ri fu)):=Ag (OA (Ri fu)) (NG fu) (fun S h=>zAw fu S h) fu
theorem wG(fu:Nat):zh Tryz.prog (jX (ky fu)):=
 okC Tryz.f189 (memC (QZ fu) (memC (aM fu) zu)) (fz:=[(12,[7]),(15,[5])]) (cuts:=[(9,⟨[7,8,24],⟨[.own 1328, .int .i64, .int .i64],[(1328, .sl 66)]⟩,[0,1,4,5,22,23],[],[],0,[7,8],⟨[.own 1328, .int .i64],[(1328, .sl 66)]⟩,[1328]⟩)]) (joins:=[(14,⟨[7,8,24],⟨[.own 1430, .int .i64, .int .i64],[(1430, .sl 66)]⟩,[],[],[],0,[],⟨[],[]⟩,[]⟩)]) (fl:=some fu)
theorem WV(fu:Nat):zh Tryz.prog (zA7 (Vy fu)):=
 okC Tryz.f260 (memC Mj zu) (cuts:=[(1,⟨[0],⟨[.sl 131],[]⟩,[2],[],[],0,[0],⟨[.sl 131],[]⟩,[]⟩)]) (fl:=some fu)
theorem gZ(fu:Nat):zh Tryz.prog (UX (wy fu)):=
 okC Tryz.f259 (memC Mj zu) (cuts:=[(1,⟨[0],⟨[.sl 131],[]⟩,[2],[],[],0,[0],⟨[.sl 131],[]⟩,[]⟩)]) (fl:=some fu)
theorem XZ:zh Tryz.prog (iX wF):=
 okC Tryz.f224 zu (p:=1)
theorem dG(fu:Nat):zh Tryz.prog (zBg (Ry fu)):=
 okC Tryz.f190 (memC (QZ fu) (memC XZ (memC (aM fu) zu))) (cuts:=[(6,⟨[6],⟨[.int .i64],[]⟩,[1,2,3,5,7],[0],[],0,[6],⟨[.int .i64],[]⟩,[]⟩),(8,⟨[7],⟨[.int .i64],[]⟩,[1,2,3,5,6],[0],[],2,[7],⟨[.int .i64],[]⟩,[]⟩)]) (fl:=some fu)
theorem uL(fu:Nat):zh Tryz.prog (zDe (RF fu)):=
 okC Tryz.f222 (memC (WV fu) (memC (gZ fu) (memC Mj (memC ZN (memC (ZV fu) (memC (Qw fu) (memC vL (memC (dG fu) (memC (yG fu) zu))))))))) (joins:=[(7,⟨[0],⟨[.sl 131],[(0, .cells 68 [.str, .nilv, .bool]),(1, .cells 68 [.str, .nilv, .bool])]⟩,[2,4],[],[0,1],0,[],⟨[],[]⟩,[]⟩),(16,⟨[0],⟨[.sl 131],[(0, .cells 68 [.str, .nilv, .bool]),(1, .cells 68 [.str, .nilv, .bool])]⟩,[],[],[0,1],0,[],⟨[],[]⟩,[]⟩)]) (fl:=some fu) (exS:=⟨[.optr 0, .bool],[(0, .row 68)]⟩)
theorem zDT(fu:Nat):zh Tryz.prog (zFd (bS fu)):=
 okC Tryz.f188 (memC (wG fu) (memC (uL fu) zu)) (fz:=[(10,[2])]) (cuts:=[(6,⟨[6,21],⟨[.own 1432, .int .i64],[(1432, .sl 68)]⟩,[2,3,19,20],[],[],0,[6],⟨[.own 1432],[(1432, .sl 68)]⟩,[1432]⟩)]) (joins:=[(11,⟨[6,21],⟨[.own 1534, .int .i64],[(1534, .sl 68)]⟩,[],[],[],0,[],⟨[],[]⟩,[]⟩)]) (fl:=some fu)
theorem K7(fu:Nat):zh Tryz.prog (uY (TL fu)):=
 okC Tryz.f145 (memC (JY fu) (memC (zDT fu) zu)) (fl:=some fu) (exS:=⟨[.optr 0, .bool],[(0, .row 74)]⟩)
theorem zff(fu:Nat):zh Tryz.prog (zfC (FQ fu)):=
 okC Tryz.f156 (memC eH zu) (p:=1) (cuts:=[(2,⟨[8],⟨[.int .i64],[]⟩,[0,1,7],[],[],0,[],⟨[],[]⟩,[]⟩)]) (fl:=some fu)
theorem zdF(fu:Nat):zh Tryz.prog (zdW (LQ fu)):=
 okC Tryz.f114 (memC (zff fu) zu) (p:=1) (fl:=some fu)
theorem zqp(fu:Nat):zh Tryz.prog (W9 (rM fu)):=
 okC Tryz.f82 (memC (zdF fu) zu) (p:=1) (fl:=some fu)
theorem DY(fu:Nat):zh Tryz.prog (sW (tK fu)):=
 okC Tryz.f191 (memC (dG fu) (memC (zqp fu) zu)) (fz:=[(14,[3])]) (cuts:=[(6,⟨[5,24],⟨[.own 1536, .int .i64],[(1536, .sl 9)]⟩,[22,23],[],[],0,[5],⟨[.own 1536],[(1536, .sl 9)]⟩,[1536]⟩)]) (joins:=[(15,⟨[5,24],⟨[.own 1638, .int .i64],[(1638, .sl 9)]⟩,[],[],[],0,[],⟨[],[]⟩,[]⟩)]) (fl:=some fu)
theorem kN(fu:Nat):zh Tryz.prog (xY (SG fu)):=
 okC Tryz.f146 (memC (wG fu) (memC (dG fu) (memC (DY fu) zu))) (fz:=[(16,[3])]) (cuts:=[(11,⟨[42],⟨[.int .i64],[(0, .cells 74 [.int .u8, .nilv, .nilv, .int .u8, .str, .int .i64, .str, .nilv, .bool, .nilv, .nilv, .nilv]),(1, .cells 74 [.int .u8, .nilv, .nilv, .int .u8, .str, .int .i64, .str, .nilv, .bool, .nilv, .own 1639, .nilv]),(1639, .sl 78)]⟩,[40,41],[],[0,1],0,[],⟨[],[(0, .cells 74 [.int .u8, .nilv, .nilv, .int .u8, .str, .int .i64, .str, .nilv, .bool, .nilv, .nilv, .nilv]),(1, .cells 74 [.int .u8, .nilv, .nilv, .int .u8, .str, .int .i64, .str, .nilv, .bool, .nilv, .own 1639, .nilv]),(1639, .sl 78)]⟩,[0,1,1639]⟩)]) (joins:=[(10,⟨[],⟨[],[(0, .cells 74 [.int .u8, .nilv, .nilv, .int .u8, .str, .int .i64, .str, .nilv, .bool, .nilv, .nilv, .nilv]),(1, .cells 74 [.int .u8, .nilv, .nilv, .int .u8, .str, .int .i64, .str, .nilv, .bool, .nilv, .nilv, .nilv])]⟩,[1,4,6,8],[],[0,1],0,[],⟨[],[]⟩,[]⟩)]) (fl:=some fu) (exS:=⟨[.optr 0, .bool],[(0, .row 74)]⟩)
theorem Qu:zh Tryz.prog (zoe qa):=
 okC Tryz.f225 zu (p:=1)
theorem Qv:zh Tryz.prog (zof qb):=
 okC Tryz.f226 zu (p:=1) (exS:=⟨[.optr 1],[(0, .row 232),(1, .row 131)]⟩)
theorem QD(fu:Nat):zh Tryz.prog (zkU (Zb fu)):=
 okC Tryz.f192 (memC Qu (memC Qv zu)) (p:=1) (cuts:=[(2,⟨[],⟨[],[(0, .row 232)]⟩,[0,2,3],[],[0],0,[],⟨[],[(0, .row 232)]⟩,[0]⟩)]) (fl:=some fu)
theorem xH(fu:Nat):zh Tryz.prog (znr (Qn fu)):=
 okC Tryz.f227 (memC Qu (memC (Qw fu) (memC Qv zu))) (p:=1) (cuts:=[(2,⟨[9],⟨[.int .i64],[(0, .row 232)]⟩,[0,7,8],[],[0],0,[],⟨[],[(0, .row 232)]⟩,[0]⟩)]) (fl:=some fu)
theorem zjv(fu:Nat):zh Tryz.prog (zkt (yH fu)):=
 okC Tryz.f228 (memC Qu (memC Qv (memC (QD fu) (memC (xH fu) (memC (Qw fu) (memC (wN fu) zu)))))) (fz:=[(6,[1])]) (p:=1) (joins:=[(11,⟨[],⟨[],[(1, .cells 71 [.int .u8, .str, .int .i64, .str, .nilv, .bool, .nilv]),(2, .row 232),(3, .cells 71 [.int .u8, .str, .int .i64, .str, .nilv, .bool, .nilv])]⟩,[2,4,5],[0],[1,2,3],0,[],⟨[],[]⟩,[]⟩)]) (fl:=some fu) (exS:=⟨[.optr 1, .bool],[(0, .row 232),(1, .row 71)]⟩)
theorem zlm(fu:Nat):zh Tryz.prog (zmo (rO fu)):=
 okC Tryz.f193 (memC (QD fu) (memC (xH fu) (memC Qu (memC Qv (memC (ZV fu) (memC (yN fu) (memC (zjv fu) zu))))))) (fz:=[(3,[1]),(9,[4]),(13,[3]),(17,[1]),(23,[3]),(25,[1])]) (pre:=[(25,[(4,some 6)])]) (p:=1) (cuts:=[(15,⟨[],⟨[],[(0, .row 232),(1, .cells 71 [.int .u8, .str, .int .i64, .str, .nilv, .bool, .nilv]),(2, .cells 71 [.int .u8, .str, .int .i64, .str, .nilv, .bool, .own 1742]),(1742, .sl 71)]⟩,[],[],[0,1,2],0,[],⟨[],[(0, .row 232),(1, .cells 71 [.int .u8, .str, .int .i64, .str, .nilv, .bool, .nilv]),(2, .cells 71 [.int .u8, .str, .int .i64, .str, .nilv, .bool, .own 1742]),(1742, .sl 71)]⟩,[0,1,2,1742]⟩)]) (joins:=[(14,⟨[],⟨[],[(0, .row 232),(1, .cells 71 [.int .u8, .str, .int .i64, .str, .nilv, .bool, .nilv]),(2, .cells 71 [.int .u8, .str, .int .i64, .str, .nilv, .bool, .own 1640]),(1640, .sl 71)]⟩,[0,2,4,5],[],[0,1,2],0,[],⟨[],[]⟩,[]⟩),(26,⟨[],⟨[],[(1, .cells 71 [.int .u8, .str, .int .i64, .str, .nilv, .bool, .nilv]),(2, .cells 71 [.int .u8, .str, .int .i64, .str, .nilv, .bool, .sl 71])]⟩,[],[0],[1,2],0,[],⟨[],[]⟩,[]⟩)]) (fl:=some fu) (exS:=⟨[.optr 1, .bool],[(0, .row 232),(1, .row 71)]⟩)
theorem PN(fu:Nat):zh Tryz.prog (aX (IG fu)):=
 okC Tryz.f147 (memC (wG fu) (memC (QD fu) (memC (zlm fu) zu))) (fz:=[(17,[1]),(18,[1]),(19,[3])]) (cuts:=[(13,⟨[44],⟨[.int .i64],[(1, .cells 71 [.int .u8, .str, .int .i64, .str, .nilv, .bool, .own 1743]),(1743, .sl 71)]⟩,[7,42,43],[0],[1],0,[],⟨[],[(1, .cells 71 [.int .u8, .str, .int .i64, .str, .nilv, .bool, .own 1743]),(1743, .sl 71)]⟩,[1,1743]⟩)]) (joins:=[(9,⟨[],⟨[],[(0, .cells 71 [.int .u8, .str, .int .i64, .str, .nilv, .bool, .nilv])]⟩,[2,4],[],[0],0,[],⟨[],[]⟩,[]⟩),(19,⟨[],⟨[],[(1, .cells 71 [.int .u8, .str, .int .i64, .str, .nilv, .bool, .own 1743]),(1743, .sl 71),(1745, .row 71)]⟩,[10,44],[],[1,1743,1745],0,[],⟨[],[]⟩,[]⟩)]) (fl:=some fu) (exS:=⟨[.optr 0, .int .i64],[(0, .row 71)]⟩)
theorem zCo(fu:Nat):zh Tryz.prog (zDc (eU fu)):=
 okC Tryz.f262 (memC (QZ fu) (memC (uL fu) zu)) (fl:=some fu) (exS:=⟨[.optr 0, .bool, .int .i64],[(0, .row 68)]⟩)
theorem zmA(fu:Nat)(Zn:zx->Option ((zo×Bool)×zx))(h_cond_reader_toldQ:zh Tryz.prog (Qq Zn)):zh Tryz.prog (znq (kC fu Zn)):=
 okC Tryz.f229 (memC Qu (memC Qv (memC (zCo fu) (memC h_cond_reader_toldQ zu)))) (p:=1) (fl:=some fu) (exS:=⟨[.optr 1, .bool],[(0, .row 232),(1, .row 71)]⟩)
theorem zmK(fu:Nat)(Zn:zx->Option ((zo×Bool)×zx))(hs:zh Tryz.prog (Qq Zn)):zh Tryz.prog (Qq (lH fu Zn)):=
 okC Tryz.f194 (memC (QD fu) (memC (xH fu) (memC (zmA fu Zn hs) zu))) (fz:=[(2,[1]),(6,[1]),(15,[5]),(23,[3])]) (p:=1) (cuts:=[(14,⟨[9],⟨[.bool],[(0, .row 232),(1, .cells 71 [.int .u8, .str, .int .i64, .str, .nilv, .bool, .nilv]),(5, .cells 71 [.int .u8, .str, .int .i64, .str, .nilv, .bool, .own 1744]),(1744, .sl 71)]⟩,[0,2,10],[],[0,1,5],0,[],⟨[],[(0, .row 232),(1, .cells 71 [.int .u8, .str, .int .i64, .str, .nilv, .bool, .nilv]),(5, .cells 71 [.int .u8, .str, .int .i64, .str, .nilv, .bool, .own 1744]),(1744, .sl 71)]⟩,[0,1,5,1744]⟩)]) (fl:=some fu) (exS:=⟨[.optr 1, .bool],[(0, .row 232),(1, .row 71)]⟩)
theorem zmB(fu:Nat):zh Tryz.prog (Qq (Zn fu)):=Ag (Qq (Zn fu)) (lH fu) (fun S h=>zmK fu S h) fu
theorem nO(fu:Nat):zh Tryz.prog (A9 (GH fu)):=
 okC Tryz.f148 (memC (QZ fu) (memC (zmB fu) (memC (kP fu) zu))) (fl:=some fu) (exS:=⟨[.optr 0, .int .i64],[(0, .row 71)]⟩)
theorem zjz(fu:Nat):zh Tryz.prog (zkv (FP fu)):=
 okC Tryz.f101 (memC (kN fu) (memC (PN fu) (memC (nO fu) zu))) (p:=1) (joins:=[(13,⟨[13],⟨[.bool],[(0, .row 126),(1, .cells 74 [.int .u8, .nilv, .nilv, .int .u8, .str, .int .i64, .str, .nilv, .bool, .nilv, .nilv, .nilv]),(2, .row 74)]⟩,[0,4,10,12],[],[0,1,2],0,[],⟨[],[]⟩,[]⟩)]) (fl:=some fu) (exS:=⟨[.optr 1, .bool],[(0, .row 126),(1, .row 74)]⟩)
theorem zly(fu:Nat)(Zh:(List ze×Bool)×zJ->Option (List zK×zJ))(h_sheet_parser_rulesQ:zh Tryz.prog (qO Zh)):zh Tryz.prog (zmq (vO fu Zh)):=
 okC Tryz.f101 (memC (K7 fu) (memC (kN fu) (memC (PN fu) (memC (nO fu) (memC h_sheet_parser_rulesQ zu))))) (p:=1) (joins:=[(13,⟨[13],⟨[.bool],[(0, .row 126),(1, .cells 74 [.int .u8, .nilv, .nilv, .int .u8, .str, .int .i64, .str, .nilv, .bool, .nilv, .nilv, .nilv]),(2, .row 74)]⟩,[0,4,10,12],[],[0,1,2],0,[],⟨[],[]⟩,[]⟩),(18,⟨[],⟨[],[(0, .row 126),(1, .cells 74 [.int .u8, .nilv, .nilv, .int .u8, .str, .int .i64, .str, .nilv, .bool, .nilv, .nilv, .nilv]),(2, .row 74)]⟩,[],[],[0,1,2],0,[],⟨[],[]⟩,[]⟩)]) (fl:=some fu) (exS:=⟨[.optr 1, .bool],[(0, .row 126),(1, .row 74)]⟩)
theorem zkP(fu:Nat)(Zh:(List ze×Bool)×zJ->Option (List zK×zJ))(hs:zh Tryz.prog (qO Zh)):zh Tryz.prog (qO (wH fu Zh)):=
 okC Tryz.f68 (memC fV (memC (ZV fu) (memC (J7 fu) (memC (zly fu Zh hs) (memC (zjz fu) zu))))) (fz:=[(10,[7]),(22,[2])]) (p:=1) (cuts:=[(2,⟨[1,7],⟨[.sl 131, .own 1745],[(0, .row 126),(1745, .sl 74)]⟩,[0,2,6],[],[0],0,[7],⟨[.own 1745],[(0, .row 126),(1745, .sl 74)]⟩,[0,1745]⟩)]) (joins:=[(8,⟨[1,7],⟨[.sl 131, .own 1745],[(0, .row 126),(1745, .sl 74)]⟩,[8],[],[0,1745],0,[],⟨[],[]⟩,[]⟩),(12,⟨[1,7,9,10],⟨[.sl 131, .own 1745, .str, .own 1848],[(0, .row 126),(1745, .sl 74),(1848, .sl 5)]⟩,[],[],[0,1745],0,[],⟨[],[]⟩,[]⟩),(19,⟨[1,7],⟨[.sl 131, .own 1745],[(0, .row 126),(1745, .sl 74)]⟩,[9,11,12],[],[0,1745],0,[],⟨[],[]⟩,[]⟩)]) (fl:=some fu)
theorem iP(fu:Nat):zh Tryz.prog (qO (Zh fu)):=Ag (qO (Zh fu)) (wH fu) (fun S h=>zkP fu S h) fu
theorem CY(fu:Nat):zh Tryz.prog (rW (sK fu)):=
 okC Tryz.f44 (memC (WO fu) (memC vT (memC (iP fu) zu))) (fl:=some fu)
theorem IY(fu:Nat):zh Tryz.prog (xW (Eu fu)):=
 okC Tryz.f29 (memC (CY fu) zu) (fl:=some fu) (exS:=⟨[.optr 0, .int .i64],[(0, .row 27)]⟩)
theorem zr0(fu:Nat):zh Tryz.prog (C8 (GM fu)):=
 okC Tryz.f44 (memC (WO fu) (memC vT (memC (iP fu) zu))) (fl:=some fu)
theorem E9(fu:Nat):zh Tryz.prog (G8 (uA fu)):=
 okC Tryz.f29 (memC (zr0 fu) zu) (fl:=some fu) (exS:=⟨[.optr 0, .int .i64],[(0, .row 27)]⟩)
theorem D9(fu:Nat):zh Tryz.prog (F8 (kG fu)):=
 zh.told (I:=I) (P:=Tryz.prog) (Fn:=fun b:Bool=>cond b (Eu fu) (uA fu)) true (fun b=>match b with|true=>IY fu|false=>E9 fu) (fun x y h=>by
  unfold kG at h;exact alt2 (A:=(Eu fu)) (B:=(uA fu)) h)
theorem zjH(fu:Nat):zh Tryz.prog (LP (OP fu)):=
 okC Tryz.f59 zu (fl:=some fu)
theorem zkK(fu:Nat):zh Tryz.prog (LP (oH fu)):=(zjH fu).le (zkE fu)
theorem ziU(fu:Nat):zh Tryz.prog (nP (gP fu)):=
 okC Tryz.f60 zu (fl:=some fu)
theorem zjA(fu:Nat):zh Tryz.prog (nP (BI fu)):=(ziU fu).le (zjl fu)
theorem zj8(fu:Nat)(ZP:List zf->Option (List zf))(hs:zh Tryz.prog (QC ZP)):zh Tryz.prog (QC (OI fu ZP)):=
 okC Tryz.f39 (memC (zkK fu) (memC (zjA fu) (memC hs zu))) (fz:=[(16,[2]),(19,[2])]) (pre:=[(16,[(8,some 1)]),(19,[(55,none),(5,some 2)])]) (cuts:=[(3,⟨[3,12],⟨[.own 1850, .int .i64],[(1850, .sl 105)]⟩,[2,10,11],[],[],0,[3],⟨[.own 1850],[(1850, .sl 105)]⟩,[1850]⟩),(8,⟨[6,23],⟨[.own 1849, .int .i64],[(1849, .sl 109)]⟩,[3,5,12,21,22],[1850,1851,1852],[],2,[6],⟨[.own 1849],[(1849, .sl 109)]⟩,[1849]⟩),(12,⟨[34],⟨[.int .i64],[(1854, .sl 114)]⟩,[6,8,23,33],[1849,1853],[1854],4,[],⟨[],[(1854, .sl 114)]⟩,[1854]⟩)]) (fl:=some fu)
theorem zjD(fu:Nat):zh Tryz.prog (QC (ZP fu)):=Ag (QC (ZP fu)) (OI fu) (fun S h=>zj8 fu S h) fu
theorem zmL(fu:Nat)(Z0:List ze->Option (List ze))(hs:zh Tryz.prog (nC Z0)):zh Tryz.prog (nC (nH fu Z0)):=
 okC Tryz.f61 (memC hs zu) (fz:=[(6,[2])]) (cuts:=[(3,⟨[3,8],⟨[.own 1851, .int .i64],[(1851, .sl 131)]⟩,[2,6,7],[],[],0,[3],⟨[.own 1851],[(1851, .sl 131)]⟩,[1851]⟩)]) (fl:=some fu)
theorem IP(fu:Nat):zh Tryz.prog (nC (Z0 fu)):=Ag (nC (Z0 fu)) (nH fu) (fun S h=>zmL fu S h) fu
theorem znT(fu:Nat):zh Tryz.prog (zon (RO fu)):=
 okC Tryz.f40 (memC (IP fu) zu) (fz:=[(6,[2])]) (cuts:=[(3,⟨[3,8],⟨[.own 1852, .int .i64],[(1852, .sl 68)]⟩,[2,6,7],[],[],0,[3],⟨[.own 1852],[(1852, .sl 68)]⟩,[1852]⟩)]) (fl:=some fu)
theorem zpy(fu:Nat)(qU:zo->Option zo)(hs:zh Tryz.prog (SC qU)):zh Tryz.prog (SC (aH fu qU)):=
 okC Tryz.f41 (memC (IP fu) (memC hs zu)) (fz:=[(6,[3])]) (cuts:=[(4,⟨[3,15],⟨[.own 1853, .int .i64],[(1853, .sl 71)]⟩,[1,2,13,14],[0,1],[],0,[3],⟨[.own 1853],[(1853, .sl 71)]⟩,[1853]⟩)]) (fl:=some fu) (exS:=⟨[.optr 0],[(0, .row 71)]⟩)
theorem zpc(fu:Nat):zh Tryz.prog (SC (qU fu)):=Ag (SC (qU fu)) (aH fu) (fun S h=>zpy fu S h) fu
theorem ziV(fu:Nat):zh Tryz.prog (mP (eP fu)):=
 okC Tryz.f42 zu (fl:=some fu)
theorem zjB(fu:Nat):zh Tryz.prog (mP (rC fu)):=(ziV fu).le (zjm fu)
theorem ziQ(fu:Nat):zh Tryz.prog (zja (rC fu)):=kU ipOK (by kernel_rfl) (zjB fu)
theorem zn3(fu:Nat)(qf:List zK->Option (List zK))(hs:zh Tryz.prog (wC qf)):zh Tryz.prog (wC (fH fu qf)):=
 okC Tryz.f24 (memC (zjD fu) (memC (znT fu) (memC (zpc fu) (memC (ziQ fu) (memC hs zu))))) (fz:=[(12,[3]),(16,[2])]) (pre:=[(16,[(40,none)])]) (cuts:=[(3,⟨[3,11],⟨[.own 1855, .int .i64],[(1855, .sl 74)]⟩,[2,9,10],[],[],0,[3],⟨[.own 1855],[(1855, .sl 74)]⟩,[1855]⟩),(10,⟨[6,30],⟨[.own 1854, .int .i64],[(1854, .sl 78)]⟩,[3,5,11,28,29],[1855,1856],[],2,[6],⟨[.own 1854],[(1854, .sl 78)]⟩,[1854]⟩)]) (fl:=some fu)
theorem BP(fu:Nat):zh Tryz.prog (wC (qf fu)):=Ag (wC (qf fu)) (fH fu) (fun S h=>zn3 fu S h) fu
theorem aN(fu:Nat):zh Tryz.prog (nW (JG fu)):=
 okC Tryz.f23 (memC (BP fu) zu) (fz:=[(6,[2])]) (cuts:=[(3,⟨[3,9],⟨[.own 1856, .int .i64],[(1856, .sl 33)]⟩,[1,2,7,8],[0,1],[],0,[3],⟨[.own 1856],[(1856, .sl 33)]⟩,[1856]⟩)]) (fl:=some fu) (exS:=⟨[.optr 0],[(0, .row 24)]⟩)
theorem NM(fu:Nat):zh Tryz.prog (zBt (Hy fu)):=
 okC Tryz.f14 (memC (OO fu) (memC (D9 fu) (memC (aN fu) zu))) (fz:=[(13,[11])]) (fl:=some fu) (exS:=⟨[.optr 0, .int .i64, .int .i64],[(0, .row 24)]⟩)
theorem YZ(fu:Nat):zh Tryz.prog (mX (AL fu)):=
 okC Tryz.f12 (memC (NM fu) zu) (fl:=some fu) (exS:=⟨[.optr 0, .bool],[(0, .row 24)]⟩)
theorem MM:zh Tryz.prog (zBv Gy):=
 okC Tryz.f37 zu (p:=1)
theorem zh4(fu:Nat):zh Tryz.prog (ziq (aP fu)):=
 okC Tryz.f36 (memC MM zu) (p:=1) (cuts:=[(2,⟨[8],⟨[.int .i64],[]⟩,[0,1,7],[],[],0,[],⟨[],[]⟩,[]⟩)]) (fl:=some fu)
theorem gL(fu:Nat):zh Tryz.prog (zDs (fE fu)):=
 okC Tryz.f21 (memC (OO fu) (memC (zh4 fu) zu)) (fl:=some fu)
theorem zr1(fu:Nat):zh Tryz.prog (A8 (UM fu)):=
 okC Tryz.f23 (memC (BP fu) zu) (fz:=[(6,[2])]) (cuts:=[(3,⟨[3,9],⟨[.own 1857, .int .i64],[(1857, .sl 33)]⟩,[1,2,7,8],[0,1],[],0,[3],⟨[.own 1857],[(1857, .sl 33)]⟩,[1857]⟩)]) (fl:=some fu) (exS:=⟨[.optr 1],[(1, .cells 24 [.own 0, .int .i64]),(0, .sl 33)]⟩)
theorem xX(fu:Nat):zh Tryz.prog (oW (yK fu)):=
 okC Tryz.f13 (memC (gL fu) (memC (zr1 fu) (memC zK4 zu))) (fl:=some fu) (exS:=⟨[.optr 0, .int .i64],[(0, .row 24)]⟩)
theorem zAc(fu:Nat):zh Tryz.prog (zBu (GK fu)):=
 okC Tryz.f9 (memC (gL fu) (memC (aN fu) zu)) (fl:=some fu) (exS:=⟨[.optr 0, .int .i64],[(0, .row 33)]⟩)
theorem zqg(fu:Nat):zh Tryz.prog (l8 (FH fu)):=
 okC Tryz.f15 zu (cuts:=[(4,⟨[5],⟨[.int .i64],[]⟩,[1,2],[0],[],0,[],⟨[],[]⟩,[]⟩)]) (fl:=some fu)
theorem D7(fu:Nat):zh Tryz.prog (X4 (oz fu)):=
 okC Tryz.f4 (memC (YZ fu) (memC (xX fu) (memC (NM fu) (memC (zAc fu) (memC (zqg fu) zu))))) (fz:=[(5,[3,25])]) (fl:=some fu)
theorem zAB(Bi:List zf×Int->Option Int)(hs:zh Tryz.prog (EA Bi)):zh Tryz.prog (EA (Bq Bi)):=
 okC Tryz.f45 (memC hs zu) (cuts:=[(3,⟨[5,6],⟨[.int .i64, .int .i64],[]⟩,[0,1,4],[],[],0,[5],⟨[.int .i64],[]⟩,[]⟩),(7,⟨[5,7],⟨[.int .i64, .int .i64],[]⟩,[6],[],[],2,[5],⟨[.int .i64],[]⟩,[]⟩),(12,⟨[5,9],⟨[.int .i64, .int .i64],[]⟩,[7,8],[],[],4,[5],⟨[.int .i64],[]⟩,[]⟩)])
theorem nV:zh Tryz.prog (EA Bi):=recC (EA Bi) (Bq) (fun S h=>zAB S h)
theorem O0:zh Tryz.prog (EW Hz):=
 okC Tryz.f31 (memC nV zu)
theorem zAz(Ci:List ze×Int->Option Int)(hs:zh Tryz.prog (GA Ci)):zh Tryz.prog (GA (Pp Ci)):=
 okC Tryz.f46 (memC hs zu) (cuts:=[(3,⟨[5,6],⟨[.int .i64, .int .i64],[]⟩,[0,1,4],[],[],0,[5],⟨[.int .i64],[]⟩,[]⟩)])
theorem JV:zh Tryz.prog (GA Ci):=recC (GA Ci) (Pp) (fun S h=>zAz S h)
theorem LH:zh Tryz.prog (MZ Rp):=
 okC Tryz.f69 zu (joins:=[(6,⟨[6],⟨[.bool],[]⟩,[3],[],[],0,[],⟨[],[]⟩,[]⟩)])
theorem zAx(qV:List ze->Option Int)(hs:zh Tryz.prog (NA qV)):zh Tryz.prog (NA (gz qV)):=
 okC Tryz.f47 (memC LH (memC hs zu)) (cuts:=[(3,⟨[3,4],⟨[.int .i64, .int .i64],[]⟩,[0,2],[],[],0,[3],⟨[.int .i64],[]⟩,[]⟩)]) (joins:=[(4,⟨[3,4],⟨[.int .i64, .int .i64],[]⟩,[],[],[],0,[],⟨[],[]⟩,[]⟩)])
theorem dA:zh Tryz.prog (NA qV):=recC (NA qV) (gz) (fun S h=>zAx S h)
theorem KN:zh Tryz.prog (MW Gp):=
 okC Tryz.f32 (memC JV (memC dA zu)) (cuts:=[(5,⟨[3,4],⟨[.int .i64, .int .i64],[]⟩,[0],[],[],0,[],⟨[],[]⟩,[]⟩)])
theorem zAE(qW:zo×Int->Option Int)(hs:zh Tryz.prog (yz qW)):zh Tryz.prog (yz (Aq qW)):=
 okC Tryz.f48 (memC hs zu) (cuts:=[(3,⟨[5,6],⟨[.int .i64, .int .i64],[]⟩,[1,2,4],[0],[],0,[5],⟨[.int .i64],[]⟩,[]⟩)])
theorem kM:zh Tryz.prog (yz qW):=recC (yz qW) (Aq) (fun S h=>zAE S h)
end Go.Lv.VT
end
