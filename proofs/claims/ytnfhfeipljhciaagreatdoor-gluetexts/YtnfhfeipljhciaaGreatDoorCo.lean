/- Contracts. -/
import Derived.Test.YtnfhfeipljhciaaGreatDoorTx
import Derived.Test.YtnfhfeipljhciaaGreatDoorIp
import Derived.Test.YtnfhfeipljhciaaGreatDoorLf
import Derived.Test.YtnfhfeipljhciaaGreatDoorGa
set_option linter.unusedSimpArgs false
set_option linter.unusedVariables false
namespace Go.Lv.VT
set_option maxRecDepth 100000
open Go.Proofs
theorem okC{con:Con I}{A:Env0 I}{exS:StSh}(f:Go.Func)(hS: ∀c∈A.S,zu Tryz.prog c)(hf:Tryz.prog.funcs[con.f]? =some f)(h:chk con A f=true)(he: ∀x,evF2 A T FK f.ntmps (rsl f) (body f) con exS x=con.F x):zu Tryz.prog con:=
 okC0 mixed ipOK tok rfl rfl hS hf h he
noncomputable def zgN(F:List zb→Option Bool):Con I:=⟨20,⟨[.sl 51],[]⟩,[],⟨[.bool],[]⟩,0,F⟩
noncomputable def zgO(F:Str→Option Bool):Con I:=⟨64,⟨[.str],[]⟩,[],⟨[.bool],[]⟩,0,F⟩
noncomputable def qB(F:Int→Option Bool):Con I:=⟨114,⟨[.int .u8],[]⟩,[],⟨[.bool],[]⟩,0,F⟩
noncomputable def ziD(F:Str→Option Bool):Con I:=⟨95,⟨[.str],[]⟩,[],⟨[.bool],[]⟩,0,F⟩
noncomputable def zaM(F:Int→Option Bool):Con I:=⟨175,⟨[.int .u8],[]⟩,[],⟨[.bool],[]⟩,0,F⟩
noncomputable def qM(F:Str×Int→Option Int):Con I:=⟨156,⟨[.str, .int .i64],[]⟩,[],⟨[.int .u8],[]⟩,0,F⟩
noncomputable def zbo(F:Str×Int→Option Int):Con I:=⟨176,⟨[.str, .int .i64],[]⟩,[],⟨[.int .i64],[]⟩,0,F⟩
noncomputable def zes(F:Unit→Option Str):Con I:=⟨218,⟨[],[]⟩,[],⟨[.str],[]⟩,0,F⟩
noncomputable def zbN(F:Int→Option Int):Con I:=⟨133,⟨[.int .u8],[]⟩,[],⟨[.int .u8],[]⟩,0,F⟩
noncomputable def zjL(F:Int→Option Int):Con I:=⟨219,⟨[.int .u8],[]⟩,[],⟨[.int .i64],[]⟩,0,F⟩
noncomputable def ziA(F:Int→Option Str):Con I:=⟨220,⟨[.int .i64],[]⟩,[],⟨[.str],[]⟩,0,F⟩
noncomputable def QB(F:Str×Int→Option (Str×Int)):Con I:=⟨203,⟨[.str, .int .i64],[]⟩,[],⟨[.str, .int .i64],[]⟩,0,F⟩
noncomputable def zfT(F:Str×Int→Option (zb×Int)):Con I:=⟨177,⟨[.str, .int .i64],[]⟩,[],⟨[.val 51, .int .i64],[]⟩,0,F⟩
noncomputable def zcU(F:Int→Option Bool):Con I:=⟨157,⟨[.int .u8],[]⟩,[],⟨[.bool],[]⟩,0,F⟩
noncomputable def zcS(F:Int→Option Bool):Con I:=⟨113,⟨[.int .u8],[]⟩,[],⟨[.bool],[]⟩,0,F⟩
noncomputable def Qu(F:Str×Int→Option Bool):Con I:=⟨178,⟨[.str, .int .i64],[]⟩,[],⟨[.bool],[]⟩,0,F⟩
noncomputable def zbO(F:Str×Int→Option (Str×Int)):Con I:=⟨179,⟨[.str, .int .i64],[]⟩,[],⟨[.str, .int .i64],[]⟩,0,F⟩
noncomputable def zcT(F:Str×Int→Option Bool):Con I:=⟨180,⟨[.str, .int .i64],[]⟩,[],⟨[.bool],[]⟩,0,F⟩
noncomputable def zd9(F:Str×Int→Option Bool):Con I:=⟨181,⟨[.str, .int .i64],[]⟩,[],⟨[.bool],[]⟩,0,F⟩
noncomputable def zfS(F:Str×Int→Option Int):Con I:=⟨221,⟨[.str, .int .i64],[]⟩,[],⟨[.int .i64],[]⟩,0,F⟩
noncomputable def zda(F:Str×Int→Option (Int×Bool)):Con I:=⟨204,⟨[.str, .int .i64],[]⟩,[],⟨[.int .i64, .bool],[]⟩,0,F⟩
noncomputable def zcb(F:Str→Option Int):Con I:=⟨205,⟨[.str],[]⟩,[],⟨[.int .i64],[]⟩,0,F⟩
noncomputable def zet(F:Str×Int→Option (zb×Int)):Con I:=⟨182,⟨[.str, .int .i64],[]⟩,[],⟨[.val 51, .int .i64],[]⟩,0,F⟩
noncomputable def zjO(F:Str×Int×Str→Option Bool):Con I:=⟨174,⟨[.str, .int .i64, .str],[]⟩,[],⟨[.bool],[]⟩,0,F⟩
noncomputable def zgK(F:Str→Option Str):Con I:=⟨85,⟨[.str],[]⟩,[],⟨[.str],[]⟩,0,F⟩
noncomputable def zdG(F:Str×Str→Option Bool):Con I:=⟨52,⟨[.str, .str],[]⟩,[],⟨[.bool],[]⟩,0,F⟩
noncomputable def zjN(F:Str×Int→Option (zb×Int)):Con I:=⟨222,⟨[.str, .int .i64],[]⟩,[],⟨[.val 51, .int .i64],[]⟩,0,F⟩
noncomputable def zcc(F:Int→Option Bool):Con I:=⟨223,⟨[.int .u8],[]⟩,[],⟨[.bool],[]⟩,0,F⟩
noncomputable def zjP(F:Str×Int→Option (zb×Int)):Con I:=⟨206,⟨[.str, .int .i64],[]⟩,[],⟨[.val 51, .int .i64],[]⟩,0,F⟩
noncomputable def ziC(F:Str×Int→Option (zb×Int)):Con I:=⟨183,⟨[.str, .int .i64],[]⟩,[],⟨[.val 51, .int .i64],[]⟩,0,F⟩
noncomputable def ziB(F:Int→Option Int):Con I:=⟨184,⟨[.int .u8],[]⟩,[],⟨[.int .u8],[]⟩,0,F⟩
noncomputable def zjM(F:Str×Int→Option (zb×Int)):Con I:=⟨139,⟨[.str, .int .i64],[]⟩,[],⟨[.val 51, .int .i64],[]⟩,0,F⟩
noncomputable def zgM(F:Int→Option Bool):Con I:=⟨96,⟨[.int .u8],[]⟩,[],⟨[.bool],[]⟩,0,F⟩
noncomputable def ziE(F:zb→Option Bool):Con I:=⟨51,⟨[.val 51],[]⟩,[],⟨[.bool],[]⟩,0,F⟩
noncomputable def zgL(F:List zb→Option Int):Con I:=⟨21,⟨[.sl 51],[]⟩,[],⟨[.int .i64],[]⟩,0,F⟩
noncomputable def zgJ(F:Str→Option zb):Con I:=⟨31,⟨[.str],[]⟩,[],⟨[.val 51],[]⟩,0,F⟩
noncomputable def Qi(F:Str×Int→Option Int):Con I:=⟨59,⟨[.str, .int .u8],[]⟩,[],⟨[.int .i64],[]⟩,0,F⟩
noncomputable def Qj(F:Str×Str→Option Bool):Con I:=⟨126,⟨[.str, .str],[]⟩,[],⟨[.bool],[]⟩,0,F⟩
noncomputable def zay(F:Str×Str→Option Str):Con I:=⟨191,⟨[.str, .str],[]⟩,[],⟨[.str],[]⟩,0,F⟩
noncomputable def zbJ(F:Str×Str→Option Str):Con I:=⟨146,⟨[.str, .str],[]⟩,[],⟨[.str],[]⟩,0,F⟩
noncomputable def zbx(F:Int→Option Bool):Con I:=⟨108,⟨[.int .u8],[]⟩,[],⟨[.bool],[]⟩,0,F⟩
noncomputable def zcR(F:Str→Option Bool):Con I:=⟨100,⟨[.str],[]⟩,[],⟨[.bool],[]⟩,0,F⟩
noncomputable def ZE(F:Str×Str→Option Bool):Con I:=⟨76,⟨[.str, .str],[]⟩,[],⟨[.bool],[]⟩,0,F⟩
noncomputable def zdE(F:Int→Option Bool):Con I:=⟨141,⟨[.int .u8],[]⟩,[],⟨[.bool],[]⟩,0,F⟩
noncomputable def zep(F:Int→Option Bool):Con I:=⟨105,⟨[.int .u8],[]⟩,[],⟨[.bool],[]⟩,0,F⟩
noncomputable def zcD(F:Str×Str→Option Bool):Con I:=⟨106,⟨[.str, .str],[]⟩,[],⟨[.bool],[]⟩,0,F⟩
noncomputable def zjJ(F:zb→Option Bool):Con I:=⟨58,⟨[.val 51],[]⟩,[],⟨[.bool],[]⟩,0,F⟩
noncomputable def zfQ(F:(Int×Int)×List zb→Option Bool):Con I:=⟨97,⟨[.int .i64, .int .u8, .optr 0],[(0, .row 41)]⟩,[0],⟨[.bool],[]⟩,0,F⟩
noncomputable def zgH(F:Str→Option Str):Con I:=⟨77,⟨[.str],[]⟩,[],⟨[.str],[]⟩,0,F⟩
noncomputable def zdF(F:Str×Str→Option Bool):Con I:=⟨78,⟨[.str, .str],[]⟩,[],⟨[.bool],[]⟩,0,F⟩
noncomputable def zer(F:List zb→Option Int):Con I:=⟨53,⟨[.sl 51],[]⟩,[],⟨[.int .i64],[]⟩,0,F⟩
noncomputable def zen(F:List zb→Option Int):Con I:=⟨26,⟨[.sl 51],[]⟩,[],⟨[.int .i64],[]⟩,0,F⟩
noncomputable def ziw(F:Str→Option Int):Con I:=⟨61,⟨[.str],[]⟩,[],⟨[.int .i64],[]⟩,0,F⟩
noncomputable def zca(F:Int×List UInt8→Option (List UInt8)):Con I:=⟨98,⟨[.own 0, .int .u8],[(0, .sl 5)]⟩,[],⟨[.own 1],[(1, .sl 5)]⟩,1,F⟩
noncomputable def zgF(F:(Str×Int)×List UInt8→Option (List UInt8)):Con I:=⟨60,⟨[.own 0, .str, .int .i64],[(0, .sl 5)]⟩,[],⟨[.own 1],[(1, .sl 5)]⟩,1,F⟩
noncomputable def zix(F:Unit→Option Qt):Con I:=⟨101,⟨[],[]⟩,[],⟨[.val 130],[]⟩,0,F⟩
noncomputable def zeq(F:(Int×Bool)×List UInt8→Option (List UInt8)):Con I:=⟨99,⟨[.own 0, .int .i64, .bool],[(0, .sl 5)]⟩,[],⟨[.own 1],[(1, .sl 5)]⟩,1,F⟩
noncomputable def zgG(F:zb×List UInt8→Option (List UInt8)):Con I:=⟨54,⟨[.own 0, .val 51],[(0, .sl 5)]⟩,[],⟨[.own 1],[(1, .sl 5)]⟩,1,F⟩
noncomputable def zaz(F:za→Option za):Con I:=⟨103,⟨[.optr 0],[(0, .row 100)]⟩,[],⟨[],[(0, .row 100)]⟩,0,F⟩
noncomputable def zq(F:Int×za→Option Int):Con I:=⟨116,⟨[.optr 0, .int .i64],[(0, .row 100)]⟩,[0],⟨[.int .i64],[]⟩,0,F⟩
noncomputable def QS(F:Int→Option Bool):Con I:=⟨150,⟨[.int .i64],[]⟩,[],⟨[.bool],[]⟩,0,F⟩
noncomputable def qC(F:za→Option za):Con I:=⟨118,⟨[.optr 0, .clo 150 []],[(0, .row 100)]⟩,[],⟨[],[(0, .row 100)]⟩,0,F⟩
noncomputable def QC(F:Int→Option (List UInt8)):Con I:=⟨202,⟨[.nilv, .int .i32],[]⟩,[],⟨[.own 0],[(0, .sl 5)]⟩,1,F⟩
noncomputable def zcg(F:Int→Option (List UInt8)):Con I:=⟨167,⟨[.nilv, .int .i32],[]⟩,[],⟨[.own 0],[(0, .sl 5)]⟩,1,F⟩
noncomputable def zab(F:Int×Int×Int→Option Bool):Con I:=⟨158,⟨[.int .i64, .int .i64, .int .i64],[]⟩,[],⟨[.bool],[]⟩,0,F⟩
noncomputable def QR(F:Int→Option Bool):Con I:=⟨117,⟨[.int .i64],[]⟩,[],⟨[.bool],[]⟩,0,F⟩
noncomputable def zgd(F:Int→Option Int):Con I:=⟨168,⟨[.int .i64],[]⟩,[],⟨[.int .i64],[]⟩,0,F⟩
noncomputable def zaa(F:za→Option (za×List UInt8)):Con I:=⟨125,⟨[.optr 0, .nilv],[(0, .row 100)]⟩,[],⟨[.own 1],[(0, .row 100),(1, .sl 5)]⟩,1,F⟩
noncomputable def QD(F:Int×List UInt8→Option (List UInt8)):Con I:=⟨202,⟨[.own 0, .int .i32],[(0, .sl 5)]⟩,[],⟨[.own 1],[(1, .sl 5)]⟩,1,F⟩
noncomputable def zch(F:Int×List UInt8→Option (List UInt8)):Con I:=⟨167,⟨[.own 0, .int .i32],[(0, .sl 5)]⟩,[],⟨[.own 1],[(1, .sl 5)]⟩,1,F⟩
noncomputable def ZL(F:za×List UInt8→Option (za×List UInt8)):Con I:=⟨125,⟨[.optr 0, .own 1],[(0, .row 100),(1, .sl 5)]⟩,[],⟨[.own 2],[(0, .row 100),(2, .sl 5)]⟩,1,F⟩
noncomputable def za9(F:za→Option (zb×za)):Con I:=⟨151,⟨[.optr 0],[(0, .row 100)]⟩,[],⟨[.val 51],[(0, .row 100)]⟩,0,F⟩
noncomputable def zdH(F:Int→Option Bool):Con I:=⟨122,⟨[.int .i64],[]⟩,[],⟨[.bool],[]⟩,0,F⟩
noncomputable def zcW(F:Int→Option Bool):Con I:=⟨124,⟨[.int .i64],[]⟩,[],⟨[.bool],[]⟩,0,F⟩
noncomputable def Zo(F:Int×za→Option Bool):Con I:=⟨123,⟨[.optr 0, .int .i64],[(0, .row 100)]⟩,[0],⟨[.bool],[]⟩,0,F⟩
noncomputable def Q6(F:Int×za→Option Bool):Con I:=⟨69,⟨[.optr 0, .int .i64],[(0, .row 100)]⟩,[0],⟨[.bool],[]⟩,0,F⟩
noncomputable def qK(F:za→Option (Str×za)):Con I:=⟨70,⟨[.optr 0],[(0, .row 100)]⟩,[],⟨[.str],[(0, .row 100)]⟩,0,F⟩
noncomputable def za8(F:za→Option Bool):Con I:=⟨66,⟨[.optr 0],[(0, .row 100)]⟩,[0],⟨[.bool],[]⟩,0,F⟩
noncomputable def zaP(F:za→Option za):Con I:=⟨118,⟨[.optr 0, .clo 117 []],[(0, .row 100)]⟩,[],⟨[],[(0, .row 100)]⟩,0,F⟩
noncomputable def zaN(F:za→Option (Bool×za)):Con I:=⟨67,⟨[.optr 0],[(0, .row 100)]⟩,[],⟨[.bool],[(0, .row 100)]⟩,0,F⟩
noncomputable def zcf(F:Str→Option Int):Con I:=⟨68,⟨[.str],[]⟩,[],⟨[.int .i64],[]⟩,0,F⟩
noncomputable def zaO(F:za→Option (zb×za)):Con I:=⟨152,⟨[.optr 0],[(0, .row 100)]⟩,[],⟨[.val 51],[(0, .row 100)]⟩,0,F⟩
noncomputable def zcd(F:za→Option (zb×za)):Con I:=⟨216,⟨[.optr 0],[(0, .row 100)]⟩,[],⟨[.val 51],[(0, .row 100)]⟩,0,F⟩
noncomputable def zce(F:za→Option (zb×za)):Con I:=⟨196,⟨[.optr 0],[(0, .row 100)]⟩,[],⟨[.val 51],[(0, .row 100)]⟩,0,F⟩
noncomputable def zby(F:za→Option (zb×za)):Con I:=⟨153,⟨[.optr 0],[(0, .row 100)]⟩,[],⟨[.val 51],[(0, .row 100)]⟩,0,F⟩
noncomputable def zbK(F:za→Option (zb×za)):Con I:=⟨104,⟨[.optr 0],[(0, .row 100)]⟩,[],⟨[.val 51],[(0, .row 100)]⟩,0,F⟩
noncomputable def zcE(F:(zb×Int×Int)×List zb→Option (List zb)):Con I:=⟨57,⟨[.val 51, .int .i64, .int .i64, .optr 0],[(0, .cells 41 [.own 1]),(1, .sl 51)]⟩,[],⟨[],[(0, .cells 41 [.own 2]),(2, .sl 51)]⟩,1,F⟩
noncomputable def zfU(F:Str→Option (Int×List zb)):Con I:=⟨56,⟨[.str, .clo 57 [0]],[(0, .cells 41 [.nilv])]⟩,[],⟨[.int .i64],[(0, .cells 41 [.own 1]),(1, .sl 51)]⟩,1,F⟩
noncomputable def zcV(F:Str→Option (List zb×Int)):Con I:=⟨24,⟨[.str],[]⟩,[],⟨[.sl 51, .int .i64],[]⟩,0,F⟩
noncomputable def zbI(F:List zb×List zb→Option Bool):Con I:=⟨55,⟨[.sl 51, .sl 51],[]⟩,[],⟨[.bool],[]⟩,0,F⟩
noncomputable def zeo(F:List zb→Option (Str×Int)):Con I:=⟨23,⟨[.sl 51],[]⟩,[],⟨[.str, .int .i64],[]⟩,0,F⟩
noncomputable def zfR(F:Str×List zb→Option Bool):Con I:=⟨29,⟨[.str, .sl 51],[]⟩,[],⟨[.bool],[]⟩,0,F⟩
noncomputable def zgI(F:Unit→Option Bool):Con I:=⟨22,⟨[],[]⟩,[],⟨[.bool],[]⟩,0,F⟩
noncomputable def ziz(F:List zb×List zb→Option Bool):Con I:=⟨25,⟨[.sl 51, .sl 51],[]⟩,[],⟨[.bool],[]⟩,0,F⟩
noncomputable def ziy(F:List zb→Option Bool):Con I:=⟨27,⟨[.sl 51],[]⟩,[],⟨[.bool],[]⟩,0,F⟩
noncomputable def zc9(F:Str→Option Bool):Con I:=⟨5,⟨[.str],[]⟩,[],⟨[.bool],[]⟩,0,F⟩
noncomputable def zrI(F:Str→Option (Str×Int)):Con I:=⟨102,⟨[.str],[]⟩,[],⟨[.str, .int .i64],[]⟩,0,F⟩
theorem zvH:zu Tryz.prog (zrI zgQ):=zu3
noncomputable def zou(F:Str×Int→Option Int):Con I:=⟨107,⟨[.str, .int .u8],[]⟩,[],⟨[.int .i64],[]⟩,0,F⟩
theorem ztB:zu Tryz.prog (zou zke):=zti
noncomputable def zmS(F:Str×Str→Option Int):Con I:=⟨149,⟨[.str, .str],[]⟩,[],⟨[.int .i64],[]⟩,0,F⟩
theorem zpC:zu Tryz.prog (zmS zg7):=zu4
noncomputable def zrJ(F:Str×Str→Option Str):Con I:=⟨119,⟨[.str, .str],[]⟩,[],⟨[.str],[]⟩,0,F⟩
theorem zvI:zu Tryz.prog (zrJ zff):=zu5
noncomputable def zrK(F:Str×Str→Option Str):Con I:=⟨144,⟨[.str, .str],[]⟩,[],⟨[.str],[]⟩,0,F⟩
theorem zvJ:zu Tryz.prog (zrK ziP):=zu6
noncomputable def zjK(F:Str×Str→Option Int):Con I:=⟨120,⟨[.str, .str],[]⟩,[],⟨[.int .i64],[]⟩,0,F⟩
theorem zpB:zu Tryz.prog (zjK QI):=zoZ
noncomputable def zyB(F:Str×Str→Option (Str×Str×Bool)):Con I:=⟨121,⟨[.str, .str],[]⟩,[],⟨[.str, .str, .bool],[]⟩,0,F⟩
theorem zzZ:zu Tryz.prog (zyB cutF):=zzD
noncomputable def zot(F:Int×Int→Option Str):Con I:=⟨145,⟨[.int .i64, .int .i64],[]⟩,[],⟨[.str],[]⟩,0,F⟩
theorem ztA:zu Tryz.prog (zot zgh):=zth
noncomputable def zlQ(F:(Int×Int)×List UInt8→Option (List UInt8)):Con I:=⟨142,⟨[.own 0, .int .u64, .int .i64],[(0, .sl 5)]⟩,[],⟨[.own 1],[(1, .sl 5)]⟩,1,F⟩
theorem zrg:zu Tryz.prog (zlQ zdC):=zqR
noncomputable def zlP(F:(Int×Int)×List UInt8→Option (List UInt8)):Con I:=⟨143,⟨[.own 0, .int .i64, .int .i64],[(0, .sl 5)]⟩,[],⟨[.own 1],[(1, .sl 5)]⟩,1,F⟩
theorem zrf:zu Tryz.prog (zlP zdB):=zqQ
theorem zlE:zu Tryz.prog (zgN zcv):=
 okC (A:=⟨[],[],[],0,[(5,⟨[3,4],⟨[.int .i64, .int .i64],[]⟩,[0],[],[],0,[],⟨[],[]⟩,[]⟩)],[],[]⟩) (exS:=⟨[.bool],[]⟩) Tryz.f20 zL (by kernel_rfl) (by kernel_rfl) fun x=>by kernel_rfl
theorem zlF:zu Tryz.prog (zgO QQ):=
 okC (A:=⟨[],[],[],0,[(2,⟨[3],⟨[.int .i64],[]⟩,[0],[],[],0,[],⟨[],[]⟩,[]⟩)],[],[]⟩) (exS:=⟨[.bool],[]⟩) Tryz.f64 zL (by kernel_rfl) (by kernel_rfl) fun x=>by kernel_rfl
theorem qH:zu Tryz.prog (qB zV):=
 okC (A:=⟨[],[],[],0,[],[],[]⟩) (exS:=⟨[.bool],[]⟩) Tryz.f114 zL (by kernel_rfl) (by kernel_rfl) fun x=>by kernel_rfl
theorem znE:zu Tryz.prog (ziD zdu):=
 okC (A:=⟨[qB zV],[],[],0,[],[],[]⟩) (exS:=⟨[.bool],[]⟩) Tryz.f95 (memC qH zL) (by kernel_rfl) (by kernel_rfl) fun x=>by kernel_rfl
theorem zbt:zu Tryz.prog (zaM qp):=
 okC (A:=⟨[],[],[],0,[],[],[]⟩) (exS:=⟨[.bool],[]⟩) Tryz.f175 zL (by kernel_rfl) (by kernel_rfl) fun x=>by kernel_rfl
theorem qG:zu Tryz.prog (qM zO):=
 okC (A:=⟨[],[],[],0,[],[],[]⟩) (exS:=⟨[.int .u8],[]⟩) Tryz.f156 zL (by kernel_rfl) (by kernel_rfl) fun x=>by kernel_rfl
theorem zcq:zu Tryz.prog (zbo qf):=
 okC (A:=⟨[qM zO,zaM qp],[],[],0,[(1,⟨[1],⟨[.int .i64],[]⟩,[0,4],[],[],0,[1],⟨[.int .i64],[]⟩,[]⟩)],[],[]⟩) (exS:=⟨[.int .i64],[]⟩) Tryz.f176 (memC qG (memC zbt zL)) (by kernel_rfl) (by kernel_rfl) fun x=>by kernel_rfl
theorem zhq:zu Tryz.prog (zes zbm):=
 okC (A:=⟨[],[(1,[0])],[],0,[],[],[]⟩) (exS:=⟨[.str],[]⟩) Tryz.f218 zL (by kernel_rfl) (by kernel_rfl) fun x=>by kernel_rfl
theorem zc1:zu Tryz.prog (zbN qo):=
 okC (A:=⟨[],[],[],0,[],[],[]⟩) (exS:=⟨[.int .u8],[]⟩) Tryz.f133 zL (by kernel_rfl) (by kernel_rfl) fun x=>by kernel_rfl
theorem zpD:zu Tryz.prog (zjL zcr):=
 okC (A:=⟨[qB zV,zbN qo],[],[],0,[],[],[]⟩) (exS:=⟨[.int .i64],[]⟩) Tryz.f219 (memC qH (memC zc1 zL)) (by kernel_rfl) (by kernel_rfl) fun x=>by kernel_rfl
theorem znB:zu Tryz.prog (ziA zdq):=
 okC (A:=⟨[zes zbm],[(4,[2]),(6,[8]),(8,[13]),(9,[18])],[],0,[],[],[]⟩) (exS:=⟨[.str],[]⟩) Tryz.f220 (memC zhq zL) (by kernel_rfl) (by kernel_rfl) fun x=>by kernel_rfl
theorem zao:zu Tryz.prog (QB Zy):=
 okC (A:=⟨[zes zbm,zjL zcr,qM zO,zaM qp,ziA zdq],[],[],0,[(7,⟨[6,7],⟨[.int .i64, .int .i64],[]⟩,[0,1,4,5],[],[],0,[6,7],⟨[.int .i64, .int .i64],[]⟩,[]⟩)],[(12,⟨[7],⟨[.int .i64],[]⟩,[6],[],[],0,[],⟨[],[]⟩,[]⟩)],[]⟩) (exS:=⟨[.str, .int .i64],[]⟩) Tryz.f203 (memC zhq (memC zpD (memC qG (memC zbt (memC znB zL))))) (by kernel_rfl) (by kernel_rfl) fun x=>by kernel_rfl
theorem zkJ:zu Tryz.prog (zfT zbA):=
 okC (A:=⟨[QB Zy],[],[],0,[(4,⟨[1],⟨[.int .i64],[(0, .row 51),(1, .row 51)]⟩,[0,4,6,7],[],[0,1],0,[1],⟨[.int .i64],[(0, .row 51),(1, .row 51)]⟩,[0,1]⟩)],[],[]⟩) (exS:=⟨[.optr 0, .int .i64],[(0, .row 51)]⟩) Tryz.f177 (memC zao zL) (by kernel_rfl) (by kernel_rfl) fun x=>by kernel_rfl
theorem zeT:zu Tryz.prog (zcU Qc):=
 okC (A:=⟨[zbN qo],[],[],0,[],[],[]⟩) (exS:=⟨[.bool],[]⟩) Tryz.f157 (memC zc1 zL) (by kernel_rfl) (by kernel_rfl) fun x=>by kernel_rfl
theorem zeR:zu Tryz.prog (zcS QN):=
 okC (A:=⟨[zcU Qc,qB zV],[],[],0,[],[],[]⟩) (exS:=⟨[.bool],[]⟩) Tryz.f113 (memC zeT (memC qH zL)) (by kernel_rfl) (by kernel_rfl) fun x=>by kernel_rfl
theorem QK:zu Tryz.prog (Qu Zk):=
 okC (A:=⟨[qM zO],[],[],0,[],[],[]⟩) (exS:=⟨[.bool],[]⟩) Tryz.f178 (memC qG zL) (by kernel_rfl) (by kernel_rfl) fun x=>by kernel_rfl
theorem zc2:zu Tryz.prog (zbO qI):=
 okC (A:=⟨[zcS QN,Qu Zk,QB Zy],[],[],0,[(2,⟨[1,6],⟨[.int .i64, .str],[]⟩,[0],[],[],0,[],⟨[],[]⟩,[]⟩)],[],[]⟩) (exS:=⟨[.str, .int .i64],[]⟩) Tryz.f179 (memC zeR (memC QK (memC zao zL))) (by kernel_rfl) (by kernel_rfl) fun x=>by kernel_rfl
theorem zeS:zu Tryz.prog (zcT qF):=
 okC (A:=⟨[qM zO,zcU Qc,Qu Zk],[],[],0,[],[],[]⟩) (exS:=⟨[.bool],[]⟩) Tryz.f180 (memC qG (memC zeT (memC QK zL))) (by kernel_rfl) (by kernel_rfl) fun x=>by kernel_rfl
theorem zh9:zu Tryz.prog (zd9 zai):=
 okC (A:=⟨[qM zO,qB zV],[],[],0,[],[(4,⟨[1],⟨[.int .i64],[]⟩,[0],[],[],0,[],⟨[],[]⟩,[]⟩),(6,⟨[1],⟨[.int .i64],[]⟩,[],[],[],0,[],⟨[],[]⟩,[]⟩)],[]⟩) (exS:=⟨[.bool],[]⟩) Tryz.f181 (memC qG (memC qH zL)) (by kernel_rfl) (by kernel_rfl) fun x=>by kernel_rfl
theorem zkI:zu Tryz.prog (zfS QP):=
 okC (A:=⟨[qM zO,qB zV],[],[],0,[(1,⟨[1],⟨[.int .i64],[]⟩,[0,4],[],[],0,[1],⟨[.int .i64],[]⟩,[]⟩)],[],[]⟩) (exS:=⟨[.int .i64],[]⟩) Tryz.f221 (memC qG (memC qH zL)) (by kernel_rfl) (by kernel_rfl) fun x=>by kernel_rfl
theorem zhp:zu Tryz.prog (zda QO):=
 okC (A:=⟨[qM zO,zfS QP,qB zV],[],[],0,[],[(4,⟨[1],⟨[.int .i64],[]⟩,[0],[],[],0,[],⟨[],[]⟩,[]⟩),(9,⟨[1,7],⟨[.int .i64, .bool],[]⟩,[],[],[],0,[],⟨[],[]⟩,[]⟩),(15,⟨[1,7,9],⟨[.int .i64, .bool, .int .i64],[]⟩,[],[],[],0,[],⟨[],[]⟩,[]⟩),(18,⟨[1,7],⟨[.int .i64, .bool],[]⟩,[],[],[],0,[],⟨[],[]⟩,[]⟩)],[]⟩) (exS:=⟨[.int .i64, .bool],[]⟩) Tryz.f204 (memC qG (memC zkI (memC qH zL))) (by kernel_rfl) (by kernel_rfl) fun x=>by kernel_rfl
theorem zfH:zu Tryz.prog (zcb qV):=
 okC (A:=⟨[qM zO,qB zV],[],[],0,[(5,⟨[3,5],⟨[.str, .int .i64],[]⟩,[4],[],[],0,[3,5],⟨[.str, .int .i64],[]⟩,[]⟩),(10,⟨[3,4,5],⟨[.str, .int .i64, .int .i64],[]⟩,[],[],[],2,[3,4,5],⟨[.str, .int .i64, .int .i64],[]⟩,[]⟩),(20,⟨[5,8],⟨[.int .i64, .int .i64],[]⟩,[4],[],[],4,[8],⟨[.int .i64],[]⟩,[]⟩),(28,⟨[9,10],⟨[.int .i64, .int .i64],[]⟩,[4],[],[],6,[9],⟨[.int .i64],[]⟩,[]⟩),(31,⟨[4,9],⟨[.int .i64, .int .i64],[]⟩,[],[],[],8,[9],⟨[.int .i64],[]⟩,[]⟩)],[(5,⟨[3,4,5],⟨[.str, .int .i64, .int .i64],[]⟩,[0,6],[],[],0,[],⟨[],[]⟩,[]⟩),(14,⟨[3,4,5],⟨[.str, .int .i64, .int .i64],[]⟩,[],[],[],0,[],⟨[],[]⟩,[]⟩),(19,⟨[4,5],⟨[.int .i64, .int .i64],[]⟩,[3,7],[],[],0,[],⟨[],[]⟩,[]⟩),(25,⟨[4,8],⟨[.int .i64, .int .i64],[]⟩,[],[],[],0,[],⟨[],[]⟩,[]⟩),(26,⟨[4],⟨[.int .i64],[]⟩,[3],[],[],0,[],⟨[],[]⟩,[]⟩)],[]⟩) (exS:=⟨[.int .i64],[]⟩) Tryz.f205 (memC qG (memC qH zL)) (by kernel_rfl) (by kernel_rfl) fun x=>by kernel_rfl
theorem ziY:zu Tryz.prog (zet za0):=
 okC (A:=⟨[zda QO,zcb qV,zcT qF,zbO qI,qM zO],[],[],0,[],[(9,⟨[6],⟨[.int .i64],[(0, .row 51),(1, .row 51)]⟩,[4,8],[],[0,1],0,[],⟨[],[]⟩,[]⟩)],[]⟩) (exS:=⟨[.optr 0, .int .i64],[(0, .row 51)]⟩) Tryz.f182 (memC zhp (memC zfH (memC zeS (memC zc2 (memC qG zL))))) (by kernel_rfl) (by kernel_rfl) fun x=>by kernel_rfl
theorem zpG:zu Tryz.prog (zjO zds):=
 okC (A:=⟨[],[],[],0,[],[],[]⟩) (exS:=⟨[.bool],[]⟩) Tryz.f174 zL (by kernel_rfl) (by kernel_rfl) fun x=>by kernel_rfl
theorem zlB:zu Tryz.prog (zgK QM):=
 okC (A:=⟨[zbN qo],[],[],0,[(3,⟨[4],⟨[.int .i64],[(0, .sl 5)]⟩,[2,3],[],[0],0,[],⟨[],[(0, .sl 5)]⟩,[0]⟩)],[],[]⟩) (exS:=⟨[.str],[]⟩) Tryz.f85 (memC zc1 zL) (by kernel_rfl) (by kernel_rfl) fun x=>by kernel_rfl
theorem zf5:zu Tryz.prog (zdG qm):=
 okC (A:=⟨[zgK QM],[],[],0,[],[],[]⟩) (exS:=⟨[.bool],[]⟩) Tryz.f52 (memC zlB zL) (by kernel_rfl) (by kernel_rfl) fun x=>by kernel_rfl
theorem zpF:zu Tryz.prog (zjN zdr):=
 okC (A:=⟨[Qu Zk,QB Zy],[],[],0,[(1,⟨[1],⟨[.int .i64],[]⟩,[0,4,5],[0],[],0,[1],⟨[.int .i64],[]⟩,[]⟩)],[],[]⟩) (exS:=⟨[.optr 0, .int .i64],[(0, .row 51)]⟩) Tryz.f222 (memC QK (memC zao zL)) (by kernel_rfl) (by kernel_rfl) fun x=>by kernel_rfl
theorem zfI:zu Tryz.prog (zcc qW):=
 okC (A:=⟨[],[],[],0,[],[],[]⟩) (exS:=⟨[.bool],[]⟩) Tryz.f223 zL (by kernel_rfl) (by kernel_rfl) fun x=>by kernel_rfl
theorem zpH:zu Tryz.prog (zjP ze2):=
 okC (A:=⟨[zbo qf,zaM qp,zjN zdr,zcc qW,Qu Zk,QB Zy],[],[],0,[(3,⟨[1],⟨[.int .i64],[(0, .row 51),(1, .row 51)]⟩,[0,4,6],[],[0,1],0,[1],⟨[.int .i64],[(0, .row 51),(1, .row 51)]⟩,[0,1]⟩)],[],[]⟩) (exS:=⟨[.optr 0, .int .i64],[(0, .row 51)]⟩) Tryz.f206 (memC zcq (memC zbt (memC zpF (memC zfI (memC QK (memC zao zL)))))) (by kernel_rfl) (by kernel_rfl) fun x=>by kernel_rfl
theorem znD:zu Tryz.prog (ziC zdt):=
 okC (A:=⟨[zbO qI,qM zO,zdG qm,zbo qf,zjP ze2],[],[],0,[],[(8,⟨[],⟨[],[(0, .row 51)]⟩,[4,6,7],[],[0],0,[],⟨[],[]⟩,[]⟩)],[]⟩) (exS:=⟨[.optr 0, .int .i64],[(0, .row 51)]⟩) Tryz.f183 (memC zc2 (memC qG (memC zf5 (memC zcq (memC zpH zL))))) (by kernel_rfl) (by kernel_rfl) fun x=>by kernel_rfl
theorem znC:zu Tryz.prog (ziB zb6):=
 okC (A:=⟨[],[],[],0,[],[],[]⟩) (exS:=⟨[.int .u8],[]⟩) Tryz.f184 zL (by kernel_rfl) (by kernel_rfl) fun x=>by kernel_rfl
theorem zpE:zu Tryz.prog (zjM ze0):=
 okC (A:=⟨[zaM qp,zbo qf,zfT zbA,zcS QN,Qu Zk,zbO qI,zcT qF,zd9 zai,zet za0,zjO zds,ziC zdt,ziB zb6],[],[],0,[],[],[]⟩) (exS:=⟨[.optr 0, .int .i64],[(0, .row 51)]⟩) Tryz.f139 (memC zbt (memC zcq (memC zkJ (memC zeR (memC QK (memC zc2 (memC zeS (memC zh9 (memC ziY (memC zpG (memC znD (memC znC zL)))))))))))) (by kernel_rfl) (by kernel_rfl) fun x=>by kernel_rfl
theorem zlD:zu Tryz.prog (zgM qw):=
 okC (A:=⟨[zjM ze0],[(1,[1])],[],0,[],[],[]⟩) (exS:=⟨[.bool],[]⟩) Tryz.f96 (memC zpE zL) (by kernel_rfl) (by kernel_rfl) fun x=>by kernel_rfl
theorem znF:zu Tryz.prog (ziE zdv):=
 okC (A:=⟨[zgO QQ,ziD zdu,zgM qw],[],[],0,[],[(6,⟨[8],⟨[.bool],[(1, .row 51)]⟩,[1,3,7],[0],[1],0,[],⟨[],[]⟩,[]⟩),(13,⟨[56],⟨[.bool],[(1, .row 51)]⟩,[],[],[1],0,[],⟨[],[]⟩,[]⟩),(21,⟨[90],⟨[.bool],[(1, .row 51)]⟩,[],[],[1],0,[],⟨[],[]⟩,[]⟩),(26,⟨[148],⟨[.bool],[]⟩,[],[1],[],0,[],⟨[],[]⟩,[]⟩)],[]⟩) (exS:=⟨[.bool],[]⟩) Tryz.f51 (memC zlF (memC znE (memC zlD zL))) (by kernel_rfl) (by kernel_rfl) fun x=>by kernel_rfl
theorem zlC:zu Tryz.prog (zgL zcu):=
 okC (A:=⟨[ziE zdv,zdG qm],[],[],0,[(4,⟨[3],⟨[.int .i64],[]⟩,[0],[],[],0,[],⟨[],[]⟩,[]⟩)],[(12,⟨[4],⟨[.int .i64],[]⟩,[3],[],[],0,[],⟨[],[]⟩,[]⟩),(14,⟨[],⟨[],[]⟩,[3],[],[],0,[],⟨[],[]⟩,[]⟩)],[]⟩) (exS:=⟨[.int .i64],[]⟩) Tryz.f21 (memC znF (memC zf5 zL)) (by kernel_rfl) (by kernel_rfl) fun x=>by kernel_rfl
theorem zlA:zu Tryz.prog (zgJ zat):=
 okC (A:=⟨[],[],[],0,[],[],[]⟩) (exS:=⟨[.optr 0],[(0, .row 51)]⟩) Tryz.f31 zL (by kernel_rfl) (by kernel_rfl) fun x=>by kernel_rfl
theorem Q9:zu Tryz.prog (Qi strings_IndexByte):=
 okC (A:=⟨[zou zke],[],[],0,[],[],[]⟩) (exS:=⟨[.int .i64],[]⟩) Tryz.f59 (memC ztB zL) (by kernel_rfl) (by kernel_rfl) fun x=>by kernel_rfl
theorem zaB:zu Tryz.prog (Qj stringslite_HasPrefix):=
 okC (A:=⟨[],[],[],0,[],[],[]⟩) (exS:=⟨[.bool],[]⟩) Tryz.f126 zL (by kernel_rfl) (by kernel_rfl) fun x=>by kernel_rfl
theorem zc3:zu Tryz.prog (zay stringslite_TrimPrefix):=
 okC (A:=⟨[Qj stringslite_HasPrefix],[],[],0,[],[],[]⟩) (exS:=⟨[.str],[]⟩) Tryz.f191 (memC zaB zL) (by kernel_rfl) (by kernel_rfl) fun x=>by kernel_rfl
theorem zeV:zu Tryz.prog (zbJ strings_TrimPrefix):=
 okC (A:=⟨[zay stringslite_TrimPrefix],[],[],0,[],[],[]⟩) (exS:=⟨[.str],[]⟩) Tryz.f146 (memC zc3 zL) (by kernel_rfl) (by kernel_rfl) fun x=>by kernel_rfl
theorem zbR:zu Tryz.prog (zbx ZU):=
 okC (A:=⟨[],[],[],0,[],[],[]⟩) (exS:=⟨[.bool],[]⟩) Tryz.f108 zL (by kernel_rfl) (by kernel_rfl) fun x=>by kernel_rfl
theorem zeQ:zu Tryz.prog (zcR QH):=
 okC (A:=⟨[zbJ strings_TrimPrefix,zbx ZU],[],[],0,[],[],[]⟩) (exS:=⟨[.bool],[]⟩) Tryz.f100 (memC zeV (memC zbR zL)) (by kernel_rfl) (by kernel_rfl) fun x=>by kernel_rfl
theorem Z7:zu Tryz.prog (ZE strings_HasPrefix):=
 okC (A:=⟨[Qj stringslite_HasPrefix],[],[],0,[],[],[]⟩) (exS:=⟨[.bool],[]⟩) Tryz.f76 (memC zaB zL) (by kernel_rfl) (by kernel_rfl) fun x=>by kernel_rfl
theorem zf3:zu Tryz.prog (zdE QG):=
 okC (A:=⟨[],[],[],0,[],[],[]⟩) (exS:=⟨[.bool],[]⟩) Tryz.f141 zL (by kernel_rfl) (by kernel_rfl) fun x=>by kernel_rfl
theorem zhm:zu Tryz.prog (zep QX):=
 okC (A:=⟨[zdE QG,zbx ZU],[],[],0,[],[],[]⟩) (exS:=⟨[.bool],[]⟩) Tryz.f105 (memC zf3 (memC zbR zL)) (by kernel_rfl) (by kernel_rfl) fun x=>by kernel_rfl
theorem zgo:zu Tryz.prog (zcD strings_Contains):=
 okC (A:=⟨[zmS zg7],[],[],0,[],[],[]⟩) (exS:=⟨[.bool],[]⟩) Tryz.f106 (memC zpC zL) (by kernel_rfl) (by kernel_rfl) fun x=>by kernel_rfl
theorem zpA:zu Tryz.prog (zjJ zeC):=
 okC (A:=⟨[Qi strings_IndexByte,zcR QH,ZE strings_HasPrefix,zep QX,zcD strings_Contains],[],[],0,[],[(8,⟨[3,4,5,6,7,25],⟨[.bool, .bool, .bool, .bool, .bool, .bool],[]⟩,[1,16],[],[],0,[],⟨[],[]⟩,[]⟩),(14,⟨[3,4,5,6,7,63],⟨[.bool, .bool, .bool, .bool, .bool, .bool],[]⟩,[],[],[],0,[],⟨[],[]⟩,[]⟩),(22,⟨[4,5,6,7,94],⟨[.bool, .bool, .bool, .bool, .bool],[]⟩,[3],[],[],0,[],⟨[],[]⟩,[]⟩),(24,⟨[3,4,5,6,7],⟨[.bool, .bool, .bool, .bool, .bool],[]⟩,[1],[0],[],0,[],⟨[],[]⟩,[]⟩)],[]⟩) (exS:=⟨[.bool],[]⟩) Tryz.f58 (memC Q9 (memC zeQ (memC Z7 (memC zhm (memC zgo zL))))) (by kernel_rfl) (by kernel_rfl) fun x=>by kernel_rfl
theorem zkG:zu Tryz.prog (zfQ ZB):=
 okC (A:=⟨[],[],[],1,[],[],[]⟩) (exS:=⟨[.bool],[]⟩) Tryz.f97 zL (by kernel_rfl) (by kernel_rfl) fun x=>by kernel_rfl
theorem zly:zu Tryz.prog (zgH zbg):=
 okC (A:=⟨[],[],[],0,[(3,⟨[10],⟨[.int .i64],[(0, .sl 5)]⟩,[2,3,8,9],[],[0],0,[],⟨[],[(0, .sl 5)]⟩,[0]⟩)],[(7,⟨[10],⟨[.int .i64],[(0, .sl 5)]⟩,[],[],[0],0,[],⟨[],[]⟩,[]⟩)],[]⟩) (exS:=⟨[.str],[]⟩) Tryz.f77 zL (by kernel_rfl) (by kernel_rfl) fun x=>by kernel_rfl
theorem zf4:zu Tryz.prog (zdF zas):=
 okC (A:=⟨[zgH zbg],[],[],0,[],[],[]⟩) (exS:=⟨[.bool],[]⟩) Tryz.f78 (memC zly zL) (by kernel_rfl) (by kernel_rfl) fun x=>by kernel_rfl
theorem zhn:zu Tryz.prog (zer Qv):=
 okC (A:=⟨[zfQ ZB,zdF zas],[],[],0,[],[(11,⟨[5],⟨[.int .i64],[]⟩,[3],[0],[],0,[],⟨[],[]⟩,[]⟩)],[]⟩) (exS:=⟨[.int .i64],[]⟩) Tryz.f53 (memC zkG (memC zf4 zL)) (by kernel_rfl) (by kernel_rfl) fun x=>by kernel_rfl
theorem zhk:zu Tryz.prog (zen QU):=
 okC (A:=⟨[zjJ zeC,zer Qv],[],[],0,[(4,⟨[10],⟨[.int .i64],[]⟩,[0,8,9],[],[],0,[],⟨[],[]⟩,[]⟩)],[],[]⟩) (exS:=⟨[.int .i64],[]⟩) Tryz.f26 (memC zpA (memC zhn zL)) (by kernel_rfl) (by kernel_rfl) fun x=>by kernel_rfl
theorem znx:zu Tryz.prog (ziw QW):=
 okC (A:=⟨[ZE strings_HasPrefix],[],[],0,[],[],[]⟩) (exS:=⟨[.int .i64],[]⟩) Tryz.f61 (memC Z7 zL) (by kernel_rfl) (by kernel_rfl) fun x=>by kernel_rfl
theorem zeb:zu Tryz.prog (zca ZM):=
 okC (A:=⟨[zbx ZU,zdE QG,zlQ zdC],[(2,[2]),(3,[1]),(5,[1])],[],1,[],[],[]⟩) (exS:=⟨[.own 1],[(1, .sl 5)]⟩) Tryz.f98 (memC zbR (memC zf3 (memC zrg zL))) (by kernel_rfl) (by kernel_rfl) fun x=>by kernel_rfl
theorem zlw:zu Tryz.prog (zgF qi):=
 okC (A:=⟨[zep QX,zbx ZU,zca ZM],[(6,[2])],[],1,[(2,⟨[0,11],⟨[.own 1106, .int .i64],[(1106, .sl 5)]⟩,[1,2,6,10],[],[],0,[0],⟨[.own 1106],[(1106, .sl 5)]⟩,[1106]⟩)],[(8,⟨[0,11],⟨[.own 1208, .int .i64],[(1208, .sl 5)]⟩,[],[],[],0,[],⟨[],[]⟩,[]⟩)],[]⟩) (exS:=⟨[.own 1],[(1, .sl 5)]⟩) Tryz.f60 (memC zhm (memC zbR (memC zeb zL))) (by kernel_rfl) (by kernel_rfl) fun x=>by kernel_rfl
theorem zny:zu Tryz.prog (zix zdf):=
 okC (A:=⟨[],[],[],0,[],[],[]⟩) (exS:=⟨[.optr 0],[(0, .row 130)]⟩) Tryz.f101 zL (by kernel_rfl) (by kernel_rfl) fun x=>by kernel_rfl
theorem ziX:zu Tryz.prog (zeq Qk):=
 okC (A:=⟨[zlP zdB,zot zgh,zrK ziP],[(2,[1]),(6,[1])],[],1,[],[(3,⟨[0,1],⟨[.own 1730, .int .i64],[(1730, .sl 5)]⟩,[2],[],[],0,[],⟨[],[]⟩,[]⟩),(9,⟨[0],⟨[.own 1833],[(1833, .sl 5)]⟩,[],[],[],0,[],⟨[],[]⟩,[]⟩)],[]⟩) (exS:=⟨[.own 1],[(1, .sl 5)]⟩) Tryz.f99 (memC zrf (memC ztA (memC zvJ zL))) (by kernel_rfl) (by kernel_rfl) fun x=>by kernel_rfl
theorem zlx:zu Tryz.prog (zgG zbf):=
 okC (A:=⟨[ziw QW,zgF qi,Qi strings_IndexByte,zca ZM,zeq Qk,zcR QH,ZE strings_HasPrefix,zix zdf],[(5,[7]),(7,[1]),(12,[1]),(14,[1]),(20,[2]),(22,[1]),(30,[2]),(32,[1]),(38,[4])],[],1,[(16,⟨[0,67],⟨[.own 1523, .int .i64],[(1523, .sl 5)]⟩,[3,4,65,66],[1,4],[],1,[0],⟨[.own 1523],[(1523, .sl 5)]⟩,[1523]⟩),(26,⟨[0,93],⟨[.own 1627, .int .i64],[(1627, .sl 5)]⟩,[3,4,91,92],[1,3],[],3,[0],⟨[.own 1627],[(1627, .sl 5)]⟩,[1627]⟩)],[(12,⟨[5],⟨[.int .i64],[(0, .sl 5)]⟩,[0,3],[1],[0],0,[],⟨[],[]⟩,[]⟩),(21,⟨[0,67],⟨[.own 1625, .int .i64],[(1625, .sl 5)]⟩,[],[],[],0,[],⟨[],[]⟩,[]⟩),(31,⟨[0,93],⟨[.own 1729, .int .i64],[(1729, .sl 5)]⟩,[],[],[],0,[],⟨[],[]⟩,[]⟩)],[]⟩) (exS:=⟨[.own 1],[(1, .sl 5)]⟩) Tryz.f54 (memC znx (memC zlw (memC Q9 (memC zeb (memC ziX (memC zeQ (memC Z7 (memC zny zL)))))))) (by kernel_rfl) (by kernel_rfl) fun x=>by kernel_rfl
theorem zc4:zu Tryz.prog (zaz Zd):=
 okC (A:=⟨[ZE strings_HasPrefix,zmS zg7],[],[],1,[(0,⟨[],⟨[],[(0, .row 100)]⟩,[0],[],[0],0,[],⟨[],[(0, .row 100)]⟩,[0]⟩)],[],[]⟩) (exS:=⟨[],[(0, .row 100)]⟩) Tryz.f103 (memC Z7 (memC zpC zL)) (by kernel_rfl) (by kernel_rfl) fun x=>by kernel_rfl
theorem zt:zu Tryz.prog (zq zf):=
 okC (A:=⟨[],[],[],1,[],[],[]⟩) (exS:=⟨[.int .i64],[]⟩) Tryz.f116 zL (by kernel_rfl) (by kernel_rfl) fun x=>by kernel_rfl
theorem zaf:zu Tryz.prog (QS ZA):=
 okC (A:=⟨[],[],[],0,[],[],[]⟩) (exS:=⟨[.bool],[]⟩) Tryz.f150 zL (by kernel_rfl) (by kernel_rfl) fun x=>by kernel_rfl
theorem Qz:zu Tryz.prog (qC zM):=
 okC (A:=⟨[zq zf,QS ZA],[],[],1,[(0,⟨[],⟨[],[(0, .row 100)]⟩,[0,1],[],[0],0,[],⟨[],[(0, .row 100)]⟩,[0]⟩)],[],[]⟩) (exS:=⟨[],[(0, .row 100)]⟩) Tryz.f118 (memC zt (memC zaf zL)) (by kernel_rfl) (by kernel_rfl) fun x=>by kernel_rfl
theorem zbS:zu Tryz.prog (QC ZO):=
 okC (A:=⟨[],[(2,[1]),(4,[9]),(7,[14]),(9,[19])],[],0,[],[(7,⟨[25],⟨[.bool],[]⟩,[0,1,5],[],[],0,[],⟨[],[]⟩,[]⟩)],[]⟩) (exS:=⟨[.own 0],[(0, .sl 5)]⟩) Tryz.f202 zL (by kernel_rfl) (by kernel_rfl) fun x=>by kernel_rfl
theorem zfM:zu Tryz.prog (zcg ZI):=
 okC (A:=⟨[QC ZO],[(2,[3])],[],0,[],[],[]⟩) (exS:=⟨[.own 0],[(0, .sl 5)]⟩) Tryz.f167 (memC zbS zL) (by kernel_rfl) (by kernel_rfl) fun x=>by kernel_rfl
theorem zaX:zu Tryz.prog (zab Zl):=
 okC (A:=⟨[],[],[],0,[],[],[]⟩) (exS:=⟨[.bool],[]⟩) Tryz.f158 zL (by kernel_rfl) (by kernel_rfl) fun x=>by kernel_rfl
theorem zae:zu Tryz.prog (QR Zc):=
 okC (A:=⟨[zab Zl],[],[],0,[],[],[]⟩) (exS:=⟨[.bool],[]⟩) Tryz.f117 (memC zaX zL) (by kernel_rfl) (by kernel_rfl) fun x=>by kernel_rfl
theorem ziN:zu Tryz.prog (zgd zal):=
 okC (A:=⟨[QR Zc,zab Zl],[],[],0,[],[],[]⟩) (exS:=⟨[.int .i64],[]⟩) Tryz.f168 (memC zae (memC zaX zL)) (by kernel_rfl) (by kernel_rfl) fun x=>by kernel_rfl
theorem zcA:zu Tryz.prog (zaa Zz):=
 okC (A:=⟨[zq zf,zcg ZI,zgd zal,QS ZA],[(7,[3])],[],1,[(10,⟨[6,36],⟨[.int .i64, .int .i64],[(0, .row 100)]⟩,[0,1,4],[],[0],0,[6],⟨[.int .i64],[(0, .row 100)]⟩,[0]⟩)],[(17,⟨[6],⟨[.int .i64],[(0, .row 100)]⟩,[1],[],[0],0,[],⟨[],[]⟩,[]⟩),(19,⟨[6],⟨[.int .i64],[]⟩,[],[0],[],0,[],⟨[],[]⟩,[]⟩)],[]⟩) (exS:=⟨[.own 1],[(0, .row 100),(1, .sl 5)]⟩) Tryz.f125 (memC zt (memC zfM (memC ziN (memC zaf zL)))) (by kernel_rfl) (by kernel_rfl) fun x=>by kernel_rfl
theorem zbT:zu Tryz.prog (QD ZP):=
 okC (A:=⟨[],[(2,[1]),(4,[9]),(7,[14]),(9,[19])],[],1,[],[(7,⟨[25],⟨[.bool],[(0, .sl 5)]⟩,[0,1,5],[],[0],0,[],⟨[],[]⟩,[]⟩)],[]⟩) (exS:=⟨[.own 1],[(1, .sl 5)]⟩) Tryz.f202 zL (by kernel_rfl) (by kernel_rfl) fun x=>by kernel_rfl
theorem zfN:zu Tryz.prog (zch ZJ):=
 okC (A:=⟨[QD ZP],[(2,[3])],[],1,[],[],[]⟩) (exS:=⟨[.own 1],[(1, .sl 5)]⟩) Tryz.f167 (memC zbT zL) (by kernel_rfl) (by kernel_rfl) fun x=>by kernel_rfl
theorem qz:zu Tryz.prog (ZL zI):=
 okC (A:=⟨[zq zf,zch ZJ,zgd zal,QS ZA],[(7,[3])],[],2,[(10,⟨[6,36],⟨[.int .i64, .int .i64],[(0, .row 100)]⟩,[0,1,4],[1],[0],0,[6],⟨[.int .i64],[(0, .row 100)]⟩,[0]⟩)],[(17,⟨[6],⟨[.int .i64],[(0, .row 100),(1, .sl 5)]⟩,[1],[],[0,1],0,[],⟨[],[]⟩,[]⟩),(19,⟨[6],⟨[.int .i64],[(1, .sl 5)]⟩,[],[0],[1],0,[],⟨[],[]⟩,[]⟩)],[]⟩) (exS:=⟨[.own 2],[(0, .row 100),(2, .sl 5)]⟩) Tryz.f125 (memC zt (memC zfN (memC ziN (memC zaf zL)))) (by kernel_rfl) (by kernel_rfl) fun x=>by kernel_rfl
theorem zdZ:zu Tryz.prog (za9 Z8):=
 okC (A:=⟨[zq zf,ZL zI],[(5,[3])],[],1,[(4,⟨[4],⟨[.own 1835],[(0, .row 100),(1, .row 51),(1835, .sl 5)]⟩,[0,2,3],[],[0,1],0,[4],⟨[.own 1835],[(0, .row 100),(1, .row 51),(1835, .sl 5)]⟩,[0,1,1835]⟩)],[],[]⟩) (exS:=⟨[.optr 1],[(0, .row 100),(1, .row 51)]⟩) Tryz.f151 (memC zt (memC qz zL)) (by kernel_rfl) (by kernel_rfl) fun x=>by kernel_rfl
theorem zf6:zu Tryz.prog (zdH Qn):=
 okC (A:=⟨[zab Zl],[],[],0,[],[],[]⟩) (exS:=⟨[.bool],[]⟩) Tryz.f122 (memC zaX zL) (by kernel_rfl) (by kernel_rfl) fun x=>by kernel_rfl
theorem zeX:zu Tryz.prog (zcW Qe):=
 okC (A:=⟨[zdH Qn,QR Zc],[],[],0,[],[],[]⟩) (exS:=⟨[.bool],[]⟩) Tryz.f124 (memC zf6 (memC zae zL)) (by kernel_rfl) (by kernel_rfl) fun x=>by kernel_rfl
theorem Zw:zu Tryz.prog (Zo zo):=
 okC (A:=⟨[zq zf],[],[],1,[],[],[]⟩) (exS:=⟨[.bool],[]⟩) Tryz.f123 (memC zt zL) (by kernel_rfl) (by kernel_rfl) fun x=>by kernel_rfl
theorem zbz:zu Tryz.prog (Q6 zC):=
 okC (A:=⟨[zq zf,zdH Qn,Zo zo],[],[],1,[],[],[]⟩) (exS:=⟨[.bool],[]⟩) Tryz.f69 (memC zt (memC zf6 (memC Zw zL))) (by kernel_rfl) (by kernel_rfl) fun x=>by kernel_rfl
theorem QL:zu Tryz.prog (qK zG):=
 okC (A:=⟨[zq zf,zcW Qe,Zo zo,ZL zI],[(5,[3])],[],1,[(2,⟨[3],⟨[.own 1836],[(0, .row 100),(1836, .sl 5)]⟩,[0],[],[0],0,[],⟨[],[]⟩,[]⟩)],[],[]⟩) (exS:=⟨[.str],[(0, .row 100)]⟩) Tryz.f70 (memC zt (memC zeX (memC Zw (memC qz zL)))) (by kernel_rfl) (by kernel_rfl) fun x=>by kernel_rfl
theorem zdY:zu Tryz.prog (za8 Zj):=
 okC (A:=⟨[zq zf,QR Zc],[],[],1,[],[(5,⟨[3],⟨[.int .i64],[]⟩,[0],[],[],0,[],⟨[],[]⟩,[]⟩),(7,⟨[3],⟨[.int .i64],[]⟩,[],[],[],0,[],⟨[],[]⟩,[]⟩)],[]⟩) (exS:=⟨[.bool],[]⟩) Tryz.f66 (memC zt (memC zae zL)) (by kernel_rfl) (by kernel_rfl) fun x=>by kernel_rfl
theorem zdn:zu Tryz.prog (zaP zJ):=
 okC (A:=⟨[zq zf,QR Zc],[],[],1,[(0,⟨[],⟨[],[(0, .row 100)]⟩,[0,1],[],[0],0,[],⟨[],[(0, .row 100)]⟩,[0]⟩)],[],[]⟩) (exS:=⟨[],[(0, .row 100)]⟩) Tryz.f118 (memC zt (memC zae zL)) (by kernel_rfl) (by kernel_rfl) fun x=>by kernel_rfl
theorem zdl:zu Tryz.prog (zaN ZT):=
 okC (A:=⟨[zq zf,zaP zJ,QR Zc],[],[],1,[],[(4,⟨[],⟨[],[(0, .row 100)]⟩,[0],[],[0],0,[],⟨[],[]⟩,[]⟩),(10,⟨[4],⟨[.bool],[(0, .row 100)]⟩,[],[],[0],0,[],⟨[],[]⟩,[]⟩),(15,⟨[4,5],⟨[.bool, .int .i64],[(0, .row 100)]⟩,[],[],[0],0,[],⟨[],[]⟩,[]⟩),(19,⟨[4],⟨[.bool],[(0, .row 100)]⟩,[],[],[0],0,[],⟨[],[]⟩,[]⟩)],[]⟩) (exS:=⟨[.bool],[(0, .row 100)]⟩) Tryz.f67 (memC zt (memC zdn (memC zae zL))) (by kernel_rfl) (by kernel_rfl) fun x=>by kernel_rfl
theorem zfL:zu Tryz.prog (zcf ZH):=
 okC (A:=⟨[zrJ zff,zjK QI,zyB cutF],[],[],0,[(8,⟨[6,31],⟨[.int .i64, .int .i64],[]⟩,[0,2,3,4,5,29,30],[0],[],0,[6],⟨[.int .i64],[]⟩,[]⟩),(22,⟨[12,81],⟨[.int .i64, .int .i64],[]⟩,[4,79,80],[0],[],2,[12],⟨[.int .i64],[]⟩,[]⟩),(26,⟨[4,12],⟨[.int .i64, .int .i64],[]⟩,[],[],[],4,[12],⟨[.int .i64],[]⟩,[]⟩)],[(14,⟨[0,4,6],⟨[.str, .int .i64, .int .i64],[]⟩,[3,5],[],[],0,[],⟨[],[]⟩,[]⟩),(15,⟨[0,4],⟨[.str, .int .i64],[]⟩,[3],[],[],0,[],⟨[],[]⟩,[]⟩),(20,⟨[0,4],⟨[.str, .int .i64],[]⟩,[],[],[],0,[],⟨[],[]⟩,[]⟩),(31,⟨[12],⟨[.int .i64],[]⟩,[],[],[],0,[],⟨[],[]⟩,[]⟩)],[]⟩) (exS:=⟨[.int .i64],[]⟩) Tryz.f68 (memC zvI (memC zpB (memC zzZ zL))) (by kernel_rfl) (by kernel_rfl) fun x=>by kernel_rfl
theorem zdm:zu Tryz.prog (zaO Zu):=
 okC (A:=⟨[zaN ZT,zcf ZH,Q6 zC,qK zG,zq zf],[],[],1,[],[(9,⟨[],⟨[],[(0, .row 100),(1, .row 51),(2, .row 51)]⟩,[2,5],[],[0,1,2],0,[],⟨[],[]⟩,[]⟩)],[]⟩) (exS:=⟨[.optr 1],[(0, .row 100),(1, .row 51)]⟩) Tryz.f152 (memC zdl (memC zfL (memC zbz (memC QL (memC zt zL))))) (by kernel_rfl) (by kernel_rfl) fun x=>by kernel_rfl
theorem zfJ:zu Tryz.prog (zcd ZG):=
 okC (A:=⟨[zq zf,Zo zo,zaa Zz],[],[],1,[(1,⟨[],⟨[],[(0, .row 100),(1, .row 51)]⟩,[0,2],[],[0,1],0,[],⟨[],[]⟩,[]⟩)],[],[]⟩) (exS:=⟨[.optr 1],[(0, .row 100),(1, .row 51)]⟩) Tryz.f216 (memC zt (memC Zw (memC zcA zL))) (by kernel_rfl) (by kernel_rfl) fun x=>by kernel_rfl
theorem zfK:zu Tryz.prog (zce qZ):=
 okC (A:=⟨[qC zM,zq zf,QS ZA,zcd ZG,zab Zl,Zo zo,ZL zI],[(18,[3])],[],1,[(3,⟨[3],⟨[.own 1837],[(0, .row 100),(1, .row 51),(1837, .sl 5)]⟩,[0,2],[],[0,1],0,[],⟨[],[]⟩,[]⟩)],[(10,⟨[3,4],⟨[.own 1837, .int .i64],[(0, .row 100),(1, .row 51),(1837, .sl 5)]⟩,[],[],[0,1,1837],0,[],⟨[],[]⟩,[]⟩)],[]⟩) (exS:=⟨[.optr 1],[(0, .row 100),(1, .row 51)]⟩) Tryz.f196 (memC Qz (memC zt (memC zaf (memC zfJ (memC zaX (memC Zw (memC qz zL))))))) (by kernel_rfl) (by kernel_rfl) fun x=>by kernel_rfl
theorem zeg:zu Tryz.prog (zby Zr):=
 okC (A:=⟨[qK zG,zq zf,zdF zas,qC zM,zce qZ],[],[],1,[],[(11,⟨[],⟨[],[(0, .row 100),(1, .row 51)]⟩,[2,3],[],[0,1],0,[],⟨[],[]⟩,[]⟩)],[]⟩) (exS:=⟨[.optr 1],[(0, .row 100),(1, .row 51)]⟩) Tryz.f153 (memC QL (memC zt (memC zf4 (memC Qz (memC zfK zL))))) (by kernel_rfl) (by kernel_rfl) fun x=>by kernel_rfl
theorem zeY:zu Tryz.prog (zbK ZY):=
 okC (A:=⟨[zq zf,QS ZA,qC zM,za9 Z8,zcW Qe,Zo zo,Q6 zC,qK zG,za8 Zj,zaO Zu,ZE strings_HasPrefix,zby Zr,Qi strings_IndexByte],[],[],1,[],[],[]⟩) (exS:=⟨[.optr 1],[(0, .row 100),(1, .row 51)]⟩) Tryz.f104 (memC zt (memC zaf (memC Qz (memC zdZ (memC zeX (memC Zw (memC zbz (memC QL (memC zdY (memC zdm (memC Z7 (memC zeg (memC Q9 zL))))))))))))) (by kernel_rfl) (by kernel_rfl) fun x=>by kernel_rfl
theorem zgp:zu Tryz.prog (zcE Qr):=
 okC (A:=⟨[],[(1,[2])],[],2,[],[],[]⟩) (exS:=⟨[],[(0, .cells 41 [.own 2]),(2, .sl 51)]⟩) Tryz.f57 zL (by kernel_rfl) (by kernel_rfl) fun x=>by kernel_rfl
theorem zkK:zu Tryz.prog (zfU zbB):=
 okC (A:=⟨[zrI zgQ,zaz Zd,zbK ZY,zcE Qr],[],[],1,[(7,⟨[7],⟨[.int .i64],[(0, .cells 41 [.own 1838]),(1838, .sl 51),(1, .row 100)]⟩,[0,1,6],[],[0,1],0,[],⟨[],[(0, .cells 41 [.own 1838]),(1838, .sl 51),(1, .row 100)]⟩,[0,1,1838]⟩)],[],[]⟩) (exS:=⟨[.int .i64],[(0, .cells 41 [.own 1]),(1, .sl 51)]⟩) Tryz.f56 (memC zvH (memC zc4 (memC zeY (memC zgp zL)))) (by kernel_rfl) (by kernel_rfl) fun x=>by kernel_rfl
theorem zeW:zu Tryz.prog (zcV Qd):=
 okC (A:=⟨[zfU zbB],[],[],0,[],[],[]⟩) (exS:=⟨[.sl 51, .int .i64],[]⟩) Tryz.f24 (memC zkK zL) (by kernel_rfl) (by kernel_rfl) fun x=>by kernel_rfl
theorem zeU:zu Tryz.prog (zbI ZX):=
 okC (A:=⟨[],[],[],0,[(4,⟨[13],⟨[.int .i64],[]⟩,[0,1,12],[],[],0,[],⟨[],[]⟩,[]⟩)],[],[]⟩) (exS:=⟨[.bool],[]⟩) Tryz.f55 zL (by kernel_rfl) (by kernel_rfl) fun x=>by kernel_rfl
theorem zhl:zu Tryz.prog (zeo QV):=
 okC (A:=⟨[zen QU,zer Qv,zgG zbf,zcV Qd,zbI ZX],[(24,[5])],[],0,[(7,⟨[5,6,7],⟨[.own 1940, .own 1941, .int .i64],[(1940, .sl 5),(1941, .sl 89)]⟩,[0],[],[],0,[5],⟨[.own 1940],[(1940, .sl 5)]⟩,[1940]⟩),(11,⟨[9,36],⟨[.own 1521, .int .i64],[(1521, .sl 5)]⟩,[5,6,7,8,34,35],[1940,1941],[],2,[9],⟨[.own 1521],[(1521, .sl 5)]⟩,[1521]⟩)],[(17,⟨[5,6,7,9],⟨[.own 1940, .own 1941, .int .i64, .own 2043],[(1940, .sl 5),(1941, .sl 89),(2043, .sl 5)]⟩,[8],[],[1940,1941],0,[],⟨[],[]⟩,[]⟩),(21,⟨[5,6,7],⟨[.own 1940, .own 1941, .int .i64],[(1940, .sl 5),(1941, .sl 89),(2044, .row 89)]⟩,[9,12],[2043],[1940,1941,2044],0,[],⟨[],[]⟩,[]⟩),(24,⟨[5,6,7],⟨[.own 2148, .own 1941, .int .i64],[(1941, .sl 89),(2148, .sl 5)]⟩,[],[2044],[1941],0,[],⟨[],[]⟩,[]⟩)],[]⟩) (exS:=⟨[.str, .int .i64],[]⟩) Tryz.f23 (memC zhk (memC zhn (memC zlx (memC zeW (memC zeU zL))))) (by kernel_rfl) (by kernel_rfl) fun x=>by kernel_rfl
theorem zkH:zu Tryz.prog (zfR qc):=
 okC (A:=⟨[zeo QV],[],[],0,[],[],[]⟩) (exS:=⟨[.bool],[]⟩) Tryz.f29 (memC zhl zL) (by kernel_rfl) (by kernel_rfl) fun x=>by kernel_rfl
theorem zlz:zu Tryz.prog (zgI ql):=
 okC (A:=⟨[zgJ zat,zfR qc],[(1,[1,5,10,16,22,27])],[],0,[],[],[]⟩) (exS:=⟨[.bool],[]⟩) Tryz.f22 (memC zlA (memC zkH zL)) (by kernel_rfl) (by kernel_rfl) fun x=>by kernel_rfl
theorem znA:zu Tryz.prog (ziz zdp):=
 okC (A:=⟨[],[],[],0,[(4,⟨[5],⟨[.int .i64],[]⟩,[0,1],[],[],0,[],⟨[],[]⟩,[]⟩)],[],[]⟩) (exS:=⟨[.bool],[]⟩) Tryz.f25 zL (by kernel_rfl) (by kernel_rfl) fun x=>by kernel_rfl
theorem znz:zu Tryz.prog (ziy zdi):=
 okC (A:=⟨[zgL zcu],[],[],0,[],[],[]⟩) (exS:=⟨[.bool],[]⟩) Tryz.f27 (memC zlC zL) (by kernel_rfl) (by kernel_rfl) fun x=>by kernel_rfl
theorem zho:zu Tryz.prog (zc9 zaR):=
 okC (A:=⟨[zgI ql,zcV Qd,zen QU,zgN zcv,ziy zdi,zeo QV,ziz zdp],[],[],0,[(7,⟨[5],⟨[.int .i64],[]⟩,[3],[],[],0,[],⟨[],[]⟩,[]⟩)],[],[]⟩) (exS:=⟨[.bool],[]⟩) Tryz.f5 (memC zlz (memC zeW (memC zhk (memC zlE (memC znz (memC zhl (memC znA zL))))))) (by kernel_rfl) (by kernel_rfl) fun x=>by kernel_rfl
end Go.Lv.VT
