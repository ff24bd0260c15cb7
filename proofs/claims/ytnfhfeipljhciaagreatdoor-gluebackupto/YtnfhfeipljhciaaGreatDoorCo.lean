/- Contracts. -/
import Derived.Test.YtnfhfeipljhciaaGreatDoorTx
import Derived.Test.YtnfhfeipljhciaaGreatDoorIp
import Derived.Test.YtnfhfeipljhciaaGreatDoorLf
import Derived.Test.YtnfhfeipljhciaaGreatDoorGa
set_option linter.unusedSimpArgs false
set_option linter.unusedVariables false
namespace Go.Lv.VT
set_option maxRecDepth 100000
open Go.Proofs
theorem okC{con:Con I}{A:Env0 I}{exS:StSh}(f:Go.Func)(hS: ∀c∈A.S,zu Tryz.prog c)(hf:Tryz.prog.funcs[con.f]? =some f)(h:chk con A f=true)(he: ∀x,evF2 A T FK f.ntmps (rsl f) (body f) con exS x=con.F x):zu Tryz.prog con:=
 okC0 mixed ipOK tok rfl rfl hS hf h he
noncomputable def zgJ(F:List zb→Option Bool):Con I:=⟨20,⟨[.sl 51],[]⟩,[],⟨[.bool],[]⟩,0,F⟩
noncomputable def zgK(F:Str→Option Bool):Con I:=⟨64,⟨[.str],[]⟩,[],⟨[.bool],[]⟩,0,F⟩
noncomputable def qA(F:Int→Option Bool):Con I:=⟨114,⟨[.int .u8],[]⟩,[],⟨[.bool],[]⟩,0,F⟩
noncomputable def ziy(F:Str→Option Bool):Con I:=⟨95,⟨[.str],[]⟩,[],⟨[.bool],[]⟩,0,F⟩
noncomputable def zaK(F:Int→Option Bool):Con I:=⟨175,⟨[.int .u8],[]⟩,[],⟨[.bool],[]⟩,0,F⟩
noncomputable def qK(F:Str×Int→Option Int):Con I:=⟨156,⟨[.str, .int .i64],[]⟩,[],⟨[.int .u8],[]⟩,0,F⟩
noncomputable def zbk(F:Str×Int→Option Int):Con I:=⟨176,⟨[.str, .int .i64],[]⟩,[],⟨[.int .i64],[]⟩,0,F⟩
noncomputable def zek(F:Unit→Option Str):Con I:=⟨218,⟨[],[]⟩,[],⟨[.str],[]⟩,0,F⟩
noncomputable def zbM(F:Int→Option Int):Con I:=⟨133,⟨[.int .u8],[]⟩,[],⟨[.int .u8],[]⟩,0,F⟩
noncomputable def zjE(F:Int→Option Int):Con I:=⟨219,⟨[.int .u8],[]⟩,[],⟨[.int .i64],[]⟩,0,F⟩
noncomputable def ziv(F:Int→Option Str):Con I:=⟨220,⟨[.int .i64],[]⟩,[],⟨[.str],[]⟩,0,F⟩
noncomputable def Qz(F:Str×Int→Option (Str×Int)):Con I:=⟨203,⟨[.str, .int .i64],[]⟩,[],⟨[.str, .int .i64],[]⟩,0,F⟩
noncomputable def zfN(F:Str×Int→Option (zb×Int)):Con I:=⟨177,⟨[.str, .int .i64],[]⟩,[],⟨[.val 51, .int .i64],[]⟩,0,F⟩
noncomputable def zcS(F:Int→Option Bool):Con I:=⟨157,⟨[.int .u8],[]⟩,[],⟨[.bool],[]⟩,0,F⟩
noncomputable def zcQ(F:Int→Option Bool):Con I:=⟨113,⟨[.int .u8],[]⟩,[],⟨[.bool],[]⟩,0,F⟩
noncomputable def Qq(F:Str×Int→Option Bool):Con I:=⟨178,⟨[.str, .int .i64],[]⟩,[],⟨[.bool],[]⟩,0,F⟩
noncomputable def zbN(F:Str×Int→Option (Str×Int)):Con I:=⟨179,⟨[.str, .int .i64],[]⟩,[],⟨[.str, .int .i64],[]⟩,0,F⟩
noncomputable def zcR(F:Str×Int→Option Bool):Con I:=⟨180,⟨[.str, .int .i64],[]⟩,[],⟨[.bool],[]⟩,0,F⟩
noncomputable def zd4(F:Str×Int→Option Bool):Con I:=⟨181,⟨[.str, .int .i64],[]⟩,[],⟨[.bool],[]⟩,0,F⟩
noncomputable def zfM(F:Str×Int→Option Int):Con I:=⟨221,⟨[.str, .int .i64],[]⟩,[],⟨[.int .i64],[]⟩,0,F⟩
noncomputable def zc6(F:Str×Int→Option (Int×Bool)):Con I:=⟨204,⟨[.str, .int .i64],[]⟩,[],⟨[.int .i64, .bool],[]⟩,0,F⟩
noncomputable def zca(F:Str→Option Int):Con I:=⟨205,⟨[.str],[]⟩,[],⟨[.int .i64],[]⟩,0,F⟩
noncomputable def zel(F:Str×Int→Option (zb×Int)):Con I:=⟨182,⟨[.str, .int .i64],[]⟩,[],⟨[.val 51, .int .i64],[]⟩,0,F⟩
noncomputable def zjH(F:Str×Int×Str→Option Bool):Con I:=⟨174,⟨[.str, .int .i64, .str],[]⟩,[],⟨[.bool],[]⟩,0,F⟩
noncomputable def zgG(F:Str→Option Str):Con I:=⟨85,⟨[.str],[]⟩,[],⟨[.str],[]⟩,0,F⟩
noncomputable def zdA(F:Str×Str→Option Bool):Con I:=⟨52,⟨[.str, .str],[]⟩,[],⟨[.bool],[]⟩,0,F⟩
noncomputable def zjG(F:Str×Int→Option (zb×Int)):Con I:=⟨222,⟨[.str, .int .i64],[]⟩,[],⟨[.val 51, .int .i64],[]⟩,0,F⟩
noncomputable def zcb(F:Int→Option Bool):Con I:=⟨223,⟨[.int .u8],[]⟩,[],⟨[.bool],[]⟩,0,F⟩
noncomputable def zjI(F:Str×Int→Option (zb×Int)):Con I:=⟨206,⟨[.str, .int .i64],[]⟩,[],⟨[.val 51, .int .i64],[]⟩,0,F⟩
noncomputable def zix(F:Str×Int→Option (zb×Int)):Con I:=⟨183,⟨[.str, .int .i64],[]⟩,[],⟨[.val 51, .int .i64],[]⟩,0,F⟩
noncomputable def ziw(F:Int→Option Int):Con I:=⟨184,⟨[.int .u8],[]⟩,[],⟨[.int .u8],[]⟩,0,F⟩
noncomputable def zjF(F:Str×Int→Option (zb×Int)):Con I:=⟨139,⟨[.str, .int .i64],[]⟩,[],⟨[.val 51, .int .i64],[]⟩,0,F⟩
noncomputable def zgI(F:Int→Option Bool):Con I:=⟨96,⟨[.int .u8],[]⟩,[],⟨[.bool],[]⟩,0,F⟩
noncomputable def ziz(F:zb→Option Bool):Con I:=⟨51,⟨[.val 51],[]⟩,[],⟨[.bool],[]⟩,0,F⟩
noncomputable def zgH(F:List zb→Option Int):Con I:=⟨21,⟨[.sl 51],[]⟩,[],⟨[.int .i64],[]⟩,0,F⟩
noncomputable def zgF(F:Str→Option zb):Con I:=⟨31,⟨[.str],[]⟩,[],⟨[.val 51],[]⟩,0,F⟩
noncomputable def Qg(F:Str×Int→Option Int):Con I:=⟨59,⟨[.str, .int .u8],[]⟩,[],⟨[.int .i64],[]⟩,0,F⟩
noncomputable def Qh(F:Str×Str→Option Bool):Con I:=⟨126,⟨[.str, .str],[]⟩,[],⟨[.bool],[]⟩,0,F⟩
noncomputable def zaw(F:Str×Str→Option Str):Con I:=⟨191,⟨[.str, .str],[]⟩,[],⟨[.str],[]⟩,0,F⟩
noncomputable def zbI(F:Str×Str→Option Str):Con I:=⟨146,⟨[.str, .str],[]⟩,[],⟨[.str],[]⟩,0,F⟩
noncomputable def zbt(F:Int→Option Bool):Con I:=⟨108,⟨[.int .u8],[]⟩,[],⟨[.bool],[]⟩,0,F⟩
noncomputable def zcP(F:Str→Option Bool):Con I:=⟨100,⟨[.str],[]⟩,[],⟨[.bool],[]⟩,0,F⟩
noncomputable def ZC(F:Str×Str→Option Bool):Con I:=⟨76,⟨[.str, .str],[]⟩,[],⟨[.bool],[]⟩,0,F⟩
noncomputable def zdy(F:Int→Option Bool):Con I:=⟨141,⟨[.int .u8],[]⟩,[],⟨[.bool],[]⟩,0,F⟩
noncomputable def zeh(F:Int→Option Bool):Con I:=⟨105,⟨[.int .u8],[]⟩,[],⟨[.bool],[]⟩,0,F⟩
noncomputable def zcB(F:Str×Str→Option Bool):Con I:=⟨106,⟨[.str, .str],[]⟩,[],⟨[.bool],[]⟩,0,F⟩
noncomputable def zjC(F:zb→Option Bool):Con I:=⟨58,⟨[.val 51],[]⟩,[],⟨[.bool],[]⟩,0,F⟩
noncomputable def zfK(F:(Int×Int)×List zb→Option Bool):Con I:=⟨97,⟨[.int .i64, .int .u8, .optr 0],[(0, .row 41)]⟩,[0],⟨[.bool],[]⟩,0,F⟩
noncomputable def zgD(F:Str→Option Str):Con I:=⟨77,⟨[.str],[]⟩,[],⟨[.str],[]⟩,0,F⟩
noncomputable def zdz(F:Str×Str→Option Bool):Con I:=⟨78,⟨[.str, .str],[]⟩,[],⟨[.bool],[]⟩,0,F⟩
noncomputable def zej(F:List zb→Option Int):Con I:=⟨53,⟨[.sl 51],[]⟩,[],⟨[.int .i64],[]⟩,0,F⟩
noncomputable def zir(F:List zb→Option Int):Con I:=⟨26,⟨[.sl 51],[]⟩,[],⟨[.int .i64],[]⟩,0,F⟩
noncomputable def zis(F:Str→Option Int):Con I:=⟨61,⟨[.str],[]⟩,[],⟨[.int .i64],[]⟩,0,F⟩
noncomputable def zb9(F:Int×List UInt8→Option (List UInt8)):Con I:=⟨98,⟨[.own 0, .int .u8],[(0, .sl 5)]⟩,[],⟨[.own 1],[(1, .sl 5)]⟩,1,F⟩
noncomputable def zgB(F:(Str×Int)×List UInt8→Option (List UInt8)):Con I:=⟨60,⟨[.own 0, .str, .int .i64],[(0, .sl 5)]⟩,[],⟨[.own 1],[(1, .sl 5)]⟩,1,F⟩
noncomputable def zit(F:Unit→Option Qp):Con I:=⟨101,⟨[],[]⟩,[],⟨[.val 130],[]⟩,0,F⟩
noncomputable def zei(F:(Int×Bool)×List UInt8→Option (List UInt8)):Con I:=⟨99,⟨[.own 0, .int .i64, .bool],[(0, .sl 5)]⟩,[],⟨[.own 1],[(1, .sl 5)]⟩,1,F⟩
noncomputable def zgC(F:zb×List UInt8→Option (List UInt8)):Con I:=⟨54,⟨[.own 0, .val 51],[(0, .sl 5)]⟩,[],⟨[.own 1],[(1, .sl 5)]⟩,1,F⟩
noncomputable def zax(F:za→Option za):Con I:=⟨103,⟨[.optr 0],[(0, .row 100)]⟩,[],⟨[],[(0, .row 100)]⟩,0,F⟩
noncomputable def zq(F:Int×za→Option Int):Con I:=⟨116,⟨[.optr 0, .int .i64],[(0, .row 100)]⟩,[0],⟨[.int .i64],[]⟩,0,F⟩
noncomputable def QR(F:Int→Option Bool):Con I:=⟨150,⟨[.int .i64],[]⟩,[],⟨[.bool],[]⟩,0,F⟩
noncomputable def qB(F:za→Option za):Con I:=⟨118,⟨[.optr 0, .clo 150 []],[(0, .row 100)]⟩,[],⟨[],[(0, .row 100)]⟩,0,F⟩
noncomputable def QA(F:Int→Option (List UInt8)):Con I:=⟨202,⟨[.nilv, .int .i32],[]⟩,[],⟨[.own 0],[(0, .sl 5)]⟩,1,F⟩
noncomputable def zcf(F:Int→Option (List UInt8)):Con I:=⟨167,⟨[.nilv, .int .i32],[]⟩,[],⟨[.own 0],[(0, .sl 5)]⟩,1,F⟩
noncomputable def Q9(F:Int×Int×Int→Option Bool):Con I:=⟨158,⟨[.int .i64, .int .i64, .int .i64],[]⟩,[],⟨[.bool],[]⟩,0,F⟩
noncomputable def QQ(F:Int→Option Bool):Con I:=⟨117,⟨[.int .i64],[]⟩,[],⟨[.bool],[]⟩,0,F⟩
noncomputable def zf9(F:Int→Option Int):Con I:=⟨168,⟨[.int .i64],[]⟩,[],⟨[.int .i64],[]⟩,0,F⟩
noncomputable def Q8(F:za→Option (za×List UInt8)):Con I:=⟨125,⟨[.optr 0, .nilv],[(0, .row 100)]⟩,[],⟨[.own 1],[(0, .row 100),(1, .sl 5)]⟩,1,F⟩
noncomputable def QB(F:Int×List UInt8→Option (List UInt8)):Con I:=⟨202,⟨[.own 0, .int .i32],[(0, .sl 5)]⟩,[],⟨[.own 1],[(1, .sl 5)]⟩,1,F⟩
noncomputable def zcg(F:Int×List UInt8→Option (List UInt8)):Con I:=⟨167,⟨[.own 0, .int .i32],[(0, .sl 5)]⟩,[],⟨[.own 1],[(1, .sl 5)]⟩,1,F⟩
noncomputable def ZL(F:za×List UInt8→Option (za×List UInt8)):Con I:=⟨125,⟨[.optr 0, .own 1],[(0, .row 100),(1, .sl 5)]⟩,[],⟨[.own 2],[(0, .row 100),(2, .sl 5)]⟩,1,F⟩
noncomputable def za6(F:za→Option (zb×za)):Con I:=⟨151,⟨[.optr 0],[(0, .row 100)]⟩,[],⟨[.val 51],[(0, .row 100)]⟩,0,F⟩
noncomputable def zdB(F:Int→Option Bool):Con I:=⟨122,⟨[.int .i64],[]⟩,[],⟨[.bool],[]⟩,0,F⟩
noncomputable def zcU(F:Int→Option Bool):Con I:=⟨124,⟨[.int .i64],[]⟩,[],⟨[.bool],[]⟩,0,F⟩
noncomputable def Zn(F:Int×za→Option Bool):Con I:=⟨123,⟨[.optr 0, .int .i64],[(0, .row 100)]⟩,[0],⟨[.bool],[]⟩,0,F⟩
noncomputable def Q4(F:Int×za→Option Bool):Con I:=⟨69,⟨[.optr 0, .int .i64],[(0, .row 100)]⟩,[0],⟨[.bool],[]⟩,0,F⟩
noncomputable def qI(F:za→Option (Str×za)):Con I:=⟨70,⟨[.optr 0],[(0, .row 100)]⟩,[],⟨[.str],[(0, .row 100)]⟩,0,F⟩
noncomputable def za5(F:za→Option Bool):Con I:=⟨66,⟨[.optr 0],[(0, .row 100)]⟩,[0],⟨[.bool],[]⟩,0,F⟩
noncomputable def zaN(F:za→Option za):Con I:=⟨118,⟨[.optr 0, .clo 117 []],[(0, .row 100)]⟩,[],⟨[],[(0, .row 100)]⟩,0,F⟩
noncomputable def zaL(F:za→Option (Bool×za)):Con I:=⟨67,⟨[.optr 0],[(0, .row 100)]⟩,[],⟨[.bool],[(0, .row 100)]⟩,0,F⟩
noncomputable def zce(F:Str→Option Int):Con I:=⟨68,⟨[.str],[]⟩,[],⟨[.int .i64],[]⟩,0,F⟩
noncomputable def zaM(F:za→Option (zb×za)):Con I:=⟨152,⟨[.optr 0],[(0, .row 100)]⟩,[],⟨[.val 51],[(0, .row 100)]⟩,0,F⟩
noncomputable def zcc(F:za→Option (zb×za)):Con I:=⟨216,⟨[.optr 0],[(0, .row 100)]⟩,[],⟨[.val 51],[(0, .row 100)]⟩,0,F⟩
noncomputable def zcd(F:za→Option (zb×za)):Con I:=⟨196,⟨[.optr 0],[(0, .row 100)]⟩,[],⟨[.val 51],[(0, .row 100)]⟩,0,F⟩
noncomputable def zbu(F:za→Option (zb×za)):Con I:=⟨153,⟨[.optr 0],[(0, .row 100)]⟩,[],⟨[.val 51],[(0, .row 100)]⟩,0,F⟩
noncomputable def zbJ(F:za→Option (zb×za)):Con I:=⟨104,⟨[.optr 0],[(0, .row 100)]⟩,[],⟨[.val 51],[(0, .row 100)]⟩,0,F⟩
noncomputable def zcC(F:(zb×Int×Int)×List zb→Option (List zb)):Con I:=⟨57,⟨[.val 51, .int .i64, .int .i64, .optr 0],[(0, .cells 41 [.own 1]),(1, .sl 51)]⟩,[],⟨[],[(0, .cells 41 [.own 2]),(2, .sl 51)]⟩,1,F⟩
noncomputable def zfO(F:Str→Option (Int×List zb)):Con I:=⟨56,⟨[.str, .clo 57 [0]],[(0, .cells 41 [.nilv])]⟩,[],⟨[.int .i64],[(0, .cells 41 [.own 1]),(1, .sl 51)]⟩,1,F⟩
noncomputable def zcT(F:Str→Option (List zb×Int)):Con I:=⟨24,⟨[.str],[]⟩,[],⟨[.sl 51, .int .i64],[]⟩,0,F⟩
noncomputable def zbH(F:List zb×List zb→Option Bool):Con I:=⟨55,⟨[.sl 51, .sl 51],[]⟩,[],⟨[.bool],[]⟩,0,F⟩
noncomputable def zeg(F:List zb→Option (Str×Int)):Con I:=⟨23,⟨[.sl 51],[]⟩,[],⟨[.str, .int .i64],[]⟩,0,F⟩
noncomputable def zfL(F:Str×List zb→Option Bool):Con I:=⟨29,⟨[.str, .sl 51],[]⟩,[],⟨[.bool],[]⟩,0,F⟩
noncomputable def zgE(F:Unit→Option Bool):Con I:=⟨22,⟨[],[]⟩,[],⟨[.bool],[]⟩,0,F⟩
noncomputable def ziu(F:List zb×List zb→Option Bool):Con I:=⟨25,⟨[.sl 51, .sl 51],[]⟩,[],⟨[.bool],[]⟩,0,F⟩
noncomputable def zd3(F:List zb→Option Bool):Con I:=⟨4,⟨[.sl 51],[]⟩,[],⟨[.bool],[]⟩,0,F⟩
noncomputable def zrD(F:Str→Option (Str×Int)):Con I:=⟨102,⟨[.str],[]⟩,[],⟨[.str, .int .i64],[]⟩,0,F⟩
theorem zvz:zu Tryz.prog (zrD zgM):=zuT
noncomputable def zoo(F:Str×Int→Option Int):Con I:=⟨107,⟨[.str, .int .u8],[]⟩,[],⟨[.int .i64],[]⟩,0,F⟩
theorem ztr:zu Tryz.prog (zoo zj6):=zta
noncomputable def zmK(F:Str×Str→Option Int):Con I:=⟨149,⟨[.str, .str],[]⟩,[],⟨[.int .i64],[]⟩,0,F⟩
theorem zpu:zu Tryz.prog (zmK zg3):=zuU
noncomputable def zrE(F:Str×Str→Option Str):Con I:=⟨119,⟨[.str, .str],[]⟩,[],⟨[.str],[]⟩,0,F⟩
theorem zvA:zu Tryz.prog (zrE ze7):=zuV
noncomputable def zrF(F:Str×Str→Option Str):Con I:=⟨144,⟨[.str, .str],[]⟩,[],⟨[.str],[]⟩,0,F⟩
theorem zvB:zu Tryz.prog (zrF ziK):=zuW
noncomputable def zjD(F:Str×Str→Option Int):Con I:=⟨120,⟨[.str, .str],[]⟩,[],⟨[.int .i64],[]⟩,0,F⟩
theorem zpt:zu Tryz.prog (zjD QG):=zoS
noncomputable def zyt(F:Str×Str→Option (Str×Str×Bool)):Con I:=⟨121,⟨[.str, .str],[]⟩,[],⟨[.str, .str, .bool],[]⟩,0,F⟩
theorem zzN:zu Tryz.prog (zyt cutF):=zzs
noncomputable def zon(F:Int×Int→Option Str):Con I:=⟨145,⟨[.int .i64, .int .i64],[]⟩,[],⟨[.str],[]⟩,0,F⟩
theorem ztq:zu Tryz.prog (zon zgd):=zs9
noncomputable def zlJ(F:(Int×Int)×List UInt8→Option (List UInt8)):Con I:=⟨142,⟨[.own 0, .int .u64, .int .i64],[(0, .sl 5)]⟩,[],⟨[.own 1],[(1, .sl 5)]⟩,1,F⟩
theorem zrb:zu Tryz.prog (zlJ zdw):=zqK
noncomputable def zlI(F:(Int×Int)×List UInt8→Option (List UInt8)):Con I:=⟨143,⟨[.own 0, .int .i64, .int .i64],[(0, .sl 5)]⟩,[],⟨[.own 1],[(1, .sl 5)]⟩,1,F⟩
theorem zra:zu Tryz.prog (zlI zdv):=zqJ
theorem zlx:zu Tryz.prog (zgJ zcu):=
 okC (A:=⟨[],[],[],0,[(5,⟨[3,4],⟨[.int .i64, .int .i64],[]⟩,[0],[],[],0,[],⟨[],[]⟩,[]⟩)],[],[]⟩) (exS:=⟨[.bool],[]⟩) Tryz.f20 zL (by kernel_rfl) (by kernel_rfl) fun x=>by kernel_rfl
theorem zly:zu Tryz.prog (zgK QO):=
 okC (A:=⟨[],[],[],0,[(2,⟨[3],⟨[.int .i64],[]⟩,[0],[],[],0,[],⟨[],[]⟩,[]⟩)],[],[]⟩) (exS:=⟨[.bool],[]⟩) Tryz.f64 zL (by kernel_rfl) (by kernel_rfl) fun x=>by kernel_rfl
theorem qF:zu Tryz.prog (qA zS):=
 okC (A:=⟨[],[],[],0,[],[],[]⟩) (exS:=⟨[.bool],[]⟩) Tryz.f114 zL (by kernel_rfl) (by kernel_rfl) fun x=>by kernel_rfl
theorem zny:zu Tryz.prog (ziy zdp):=
 okC (A:=⟨[qA zS],[],[],0,[],[],[]⟩) (exS:=⟨[.bool],[]⟩) Tryz.f95 (memC qF zL) (by kernel_rfl) (by kernel_rfl) fun x=>by kernel_rfl
theorem zbp:zu Tryz.prog (zaK ql):=
 okC (A:=⟨[],[],[],0,[],[],[]⟩) (exS:=⟨[.bool],[]⟩) Tryz.f175 zL (by kernel_rfl) (by kernel_rfl) fun x=>by kernel_rfl
theorem qE:zu Tryz.prog (qK zO):=
 okC (A:=⟨[],[],[],0,[],[],[]⟩) (exS:=⟨[.int .u8],[]⟩) Tryz.f156 zL (by kernel_rfl) (by kernel_rfl) fun x=>by kernel_rfl
theorem zcp:zu Tryz.prog (zbk qc):=
 okC (A:=⟨[qK zO,zaK ql],[],[],0,[(1,⟨[1],⟨[.int .i64],[]⟩,[0,4],[],[],0,[1],⟨[.int .i64],[]⟩,[]⟩)],[],[]⟩) (exS:=⟨[.int .i64],[]⟩) Tryz.f176 (memC qE (memC zbp zL)) (by kernel_rfl) (by kernel_rfl) fun x=>by kernel_rfl
theorem zhl:zu Tryz.prog (zek zbi):=
 okC (A:=⟨[],[(1,[0])],[],0,[],[],[]⟩) (exS:=⟨[.str],[]⟩) Tryz.f218 zL (by kernel_rfl) (by kernel_rfl) fun x=>by kernel_rfl
theorem zcY:zu Tryz.prog (zbM qj):=
 okC (A:=⟨[],[],[],0,[],[],[]⟩) (exS:=⟨[.int .u8],[]⟩) Tryz.f133 zL (by kernel_rfl) (by kernel_rfl) fun x=>by kernel_rfl
theorem zpv:zu Tryz.prog (zjE zcq):=
 okC (A:=⟨[qA zS,zbM qj],[],[],0,[],[],[]⟩) (exS:=⟨[.int .i64],[]⟩) Tryz.f219 (memC qF (memC zcY zL)) (by kernel_rfl) (by kernel_rfl) fun x=>by kernel_rfl
theorem znv:zu Tryz.prog (ziv zdl):=
 okC (A:=⟨[zek zbi],[(4,[2]),(6,[8]),(8,[13]),(9,[18])],[],0,[],[],[]⟩) (exS:=⟨[.str],[]⟩) Tryz.f220 (memC zhl zL) (by kernel_rfl) (by kernel_rfl) fun x=>by kernel_rfl
theorem zam:zu Tryz.prog (Qz Zy):=
 okC (A:=⟨[zek zbi,zjE zcq,qK zO,zaK ql,ziv zdl],[],[],0,[(7,⟨[6,7],⟨[.int .i64, .int .i64],[]⟩,[0,1,4,5],[],[],0,[6,7],⟨[.int .i64, .int .i64],[]⟩,[]⟩)],[(12,⟨[7],⟨[.int .i64],[]⟩,[6],[],[],0,[],⟨[],[]⟩,[]⟩)],[]⟩) (exS:=⟨[.str, .int .i64],[]⟩) Tryz.f203 (memC zhl (memC zpv (memC qE (memC zbp (memC znv zL))))) (by kernel_rfl) (by kernel_rfl) fun x=>by kernel_rfl
theorem zkA:zu Tryz.prog (zfN zbw):=
 okC (A:=⟨[Qz Zy],[],[],0,[(4,⟨[1],⟨[.int .i64],[(0, .row 51),(1, .row 51)]⟩,[0,4,6,7],[],[0,1],0,[1],⟨[.int .i64],[(0, .row 51),(1, .row 51)]⟩,[0,1]⟩)],[],[]⟩) (exS:=⟨[.optr 0, .int .i64],[(0, .row 51)]⟩) Tryz.f177 (memC zam zL) (by kernel_rfl) (by kernel_rfl) fun x=>by kernel_rfl
theorem zeL:zu Tryz.prog (zcS Qb):=
 okC (A:=⟨[zbM qj],[],[],0,[],[],[]⟩) (exS:=⟨[.bool],[]⟩) Tryz.f157 (memC zcY zL) (by kernel_rfl) (by kernel_rfl) fun x=>by kernel_rfl
theorem zeJ:zu Tryz.prog (zcQ QL):=
 okC (A:=⟨[zcS Qb,qA zS],[],[],0,[],[],[]⟩) (exS:=⟨[.bool],[]⟩) Tryz.f113 (memC zeL (memC qF zL)) (by kernel_rfl) (by kernel_rfl) fun x=>by kernel_rfl
theorem QI:zu Tryz.prog (Qq Zj):=
 okC (A:=⟨[qK zO],[],[],0,[],[],[]⟩) (exS:=⟨[.bool],[]⟩) Tryz.f178 (memC qE zL) (by kernel_rfl) (by kernel_rfl) fun x=>by kernel_rfl
theorem zcZ:zu Tryz.prog (zbN qG):=
 okC (A:=⟨[zcQ QL,Qq Zj,Qz Zy],[],[],0,[(2,⟨[1,6],⟨[.int .i64, .str],[]⟩,[0],[],[],0,[],⟨[],[]⟩,[]⟩)],[],[]⟩) (exS:=⟨[.str, .int .i64],[]⟩) Tryz.f179 (memC zeJ (memC QI (memC zam zL))) (by kernel_rfl) (by kernel_rfl) fun x=>by kernel_rfl
theorem zeK:zu Tryz.prog (zcR qD):=
 okC (A:=⟨[qK zO,zcS Qb,Qq Zj],[],[],0,[],[],[]⟩) (exS:=⟨[.bool],[]⟩) Tryz.f180 (memC qE (memC zeL (memC QI zL))) (by kernel_rfl) (by kernel_rfl) fun x=>by kernel_rfl
theorem zh4:zu Tryz.prog (zd4 zae):=
 okC (A:=⟨[qK zO,qA zS],[],[],0,[],[(4,⟨[1],⟨[.int .i64],[]⟩,[0],[],[],0,[],⟨[],[]⟩,[]⟩),(6,⟨[1],⟨[.int .i64],[]⟩,[],[],[],0,[],⟨[],[]⟩,[]⟩)],[]⟩) (exS:=⟨[.bool],[]⟩) Tryz.f181 (memC qE (memC qF zL)) (by kernel_rfl) (by kernel_rfl) fun x=>by kernel_rfl
theorem zkz:zu Tryz.prog (zfM QN):=
 okC (A:=⟨[qK zO,qA zS],[],[],0,[(1,⟨[1],⟨[.int .i64],[]⟩,[0,4],[],[],0,[1],⟨[.int .i64],[]⟩,[]⟩)],[],[]⟩) (exS:=⟨[.int .i64],[]⟩) Tryz.f221 (memC qE (memC qF zL)) (by kernel_rfl) (by kernel_rfl) fun x=>by kernel_rfl
theorem zhk:zu Tryz.prog (zc6 QM):=
 okC (A:=⟨[qK zO,zfM QN,qA zS],[],[],0,[],[(4,⟨[1],⟨[.int .i64],[]⟩,[0],[],[],0,[],⟨[],[]⟩,[]⟩),(9,⟨[1,7],⟨[.int .i64, .bool],[]⟩,[],[],[],0,[],⟨[],[]⟩,[]⟩),(15,⟨[1,7,9],⟨[.int .i64, .bool, .int .i64],[]⟩,[],[],[],0,[],⟨[],[]⟩,[]⟩),(18,⟨[1,7],⟨[.int .i64, .bool],[]⟩,[],[],[],0,[],⟨[],[]⟩,[]⟩)],[]⟩) (exS:=⟨[.int .i64, .bool],[]⟩) Tryz.f204 (memC qE (memC zkz (memC qF zL))) (by kernel_rfl) (by kernel_rfl) fun x=>by kernel_rfl
theorem zfB:zu Tryz.prog (zca qR):=
 okC (A:=⟨[qK zO,qA zS],[],[],0,[(5,⟨[3,5],⟨[.str, .int .i64],[]⟩,[4],[],[],0,[3,5],⟨[.str, .int .i64],[]⟩,[]⟩),(10,⟨[3,4,5],⟨[.str, .int .i64, .int .i64],[]⟩,[],[],[],2,[3,4,5],⟨[.str, .int .i64, .int .i64],[]⟩,[]⟩),(20,⟨[5,8],⟨[.int .i64, .int .i64],[]⟩,[4],[],[],4,[8],⟨[.int .i64],[]⟩,[]⟩),(28,⟨[9,10],⟨[.int .i64, .int .i64],[]⟩,[4],[],[],6,[9],⟨[.int .i64],[]⟩,[]⟩),(31,⟨[4,9],⟨[.int .i64, .int .i64],[]⟩,[],[],[],8,[9],⟨[.int .i64],[]⟩,[]⟩)],[(5,⟨[3,4,5],⟨[.str, .int .i64, .int .i64],[]⟩,[0,6],[],[],0,[],⟨[],[]⟩,[]⟩),(14,⟨[3,4,5],⟨[.str, .int .i64, .int .i64],[]⟩,[],[],[],0,[],⟨[],[]⟩,[]⟩),(19,⟨[4,5],⟨[.int .i64, .int .i64],[]⟩,[3,7],[],[],0,[],⟨[],[]⟩,[]⟩),(25,⟨[4,8],⟨[.int .i64, .int .i64],[]⟩,[],[],[],0,[],⟨[],[]⟩,[]⟩),(26,⟨[4],⟨[.int .i64],[]⟩,[3],[],[],0,[],⟨[],[]⟩,[]⟩)],[]⟩) (exS:=⟨[.int .i64],[]⟩) Tryz.f205 (memC qE (memC qF zL)) (by kernel_rfl) (by kernel_rfl) fun x=>by kernel_rfl
theorem ziS:zu Tryz.prog (zel zaY):=
 okC (A:=⟨[zc6 QM,zca qR,zcR qD,zbN qG,qK zO],[],[],0,[],[(9,⟨[6],⟨[.int .i64],[(0, .row 51),(1, .row 51)]⟩,[4,8],[],[0,1],0,[],⟨[],[]⟩,[]⟩)],[]⟩) (exS:=⟨[.optr 0, .int .i64],[(0, .row 51)]⟩) Tryz.f182 (memC zhk (memC zfB (memC zeK (memC zcZ (memC qE zL))))) (by kernel_rfl) (by kernel_rfl) fun x=>by kernel_rfl
theorem zpy:zu Tryz.prog (zjH zdn):=
 okC (A:=⟨[],[],[],0,[],[],[]⟩) (exS:=⟨[.bool],[]⟩) Tryz.f174 zL (by kernel_rfl) (by kernel_rfl) fun x=>by kernel_rfl
theorem zlu:zu Tryz.prog (zgG QK):=
 okC (A:=⟨[zbM qj],[],[],0,[(3,⟨[4],⟨[.int .i64],[(0, .sl 5)]⟩,[2,3],[],[0],0,[],⟨[],[(0, .sl 5)]⟩,[0]⟩)],[],[]⟩) (exS:=⟨[.str],[]⟩) Tryz.f85 (memC zcY zL) (by kernel_rfl) (by kernel_rfl) fun x=>by kernel_rfl
theorem zfZ:zu Tryz.prog (zdA qi):=
 okC (A:=⟨[zgG QK],[],[],0,[],[],[]⟩) (exS:=⟨[.bool],[]⟩) Tryz.f52 (memC zlu zL) (by kernel_rfl) (by kernel_rfl) fun x=>by kernel_rfl
theorem zpx:zu Tryz.prog (zjG zdm):=
 okC (A:=⟨[Qq Zj,Qz Zy],[],[],0,[(1,⟨[1],⟨[.int .i64],[]⟩,[0,4,5],[0],[],0,[1],⟨[.int .i64],[]⟩,[]⟩)],[],[]⟩) (exS:=⟨[.optr 0, .int .i64],[(0, .row 51)]⟩) Tryz.f222 (memC QI (memC zam zL)) (by kernel_rfl) (by kernel_rfl) fun x=>by kernel_rfl
theorem zfC:zu Tryz.prog (zcb qU):=
 okC (A:=⟨[],[],[],0,[],[],[]⟩) (exS:=⟨[.bool],[]⟩) Tryz.f223 zL (by kernel_rfl) (by kernel_rfl) fun x=>by kernel_rfl
theorem zpz:zu Tryz.prog (zjI zeU):=
 okC (A:=⟨[zbk qc,zaK ql,zjG zdm,zcb qU,Qq Zj,Qz Zy],[],[],0,[(3,⟨[1],⟨[.int .i64],[(0, .row 51),(1, .row 51)]⟩,[0,4,6],[],[0,1],0,[1],⟨[.int .i64],[(0, .row 51),(1, .row 51)]⟩,[0,1]⟩)],[],[]⟩) (exS:=⟨[.optr 0, .int .i64],[(0, .row 51)]⟩) Tryz.f206 (memC zcp (memC zbp (memC zpx (memC zfC (memC QI (memC zam zL)))))) (by kernel_rfl) (by kernel_rfl) fun x=>by kernel_rfl
theorem znx:zu Tryz.prog (zix zdo):=
 okC (A:=⟨[zbN qG,qK zO,zdA qi,zbk qc,zjI zeU],[],[],0,[],[(8,⟨[],⟨[],[(0, .row 51)]⟩,[4,6,7],[],[0],0,[],⟨[],[]⟩,[]⟩)],[]⟩) (exS:=⟨[.optr 0, .int .i64],[(0, .row 51)]⟩) Tryz.f183 (memC zcZ (memC qE (memC zfZ (memC zcp (memC zpz zL))))) (by kernel_rfl) (by kernel_rfl) fun x=>by kernel_rfl
theorem znw:zu Tryz.prog (ziw zb5):=
 okC (A:=⟨[],[],[],0,[],[],[]⟩) (exS:=⟨[.int .u8],[]⟩) Tryz.f184 zL (by kernel_rfl) (by kernel_rfl) fun x=>by kernel_rfl
theorem zpw:zu Tryz.prog (zjF zeS):=
 okC (A:=⟨[zaK ql,zbk qc,zfN zbw,zcQ QL,Qq Zj,zbN qG,zcR qD,zd4 zae,zel zaY,zjH zdn,zix zdo,ziw zb5],[],[],0,[],[],[]⟩) (exS:=⟨[.optr 0, .int .i64],[(0, .row 51)]⟩) Tryz.f139 (memC zbp (memC zcp (memC zkA (memC zeJ (memC QI (memC zcZ (memC zeK (memC zh4 (memC ziS (memC zpy (memC znx (memC znw zL)))))))))))) (by kernel_rfl) (by kernel_rfl) fun x=>by kernel_rfl
theorem zlw:zu Tryz.prog (zgI qm):=
 okC (A:=⟨[zjF zeS],[(1,[1])],[],0,[],[],[]⟩) (exS:=⟨[.bool],[]⟩) Tryz.f96 (memC zpw zL) (by kernel_rfl) (by kernel_rfl) fun x=>by kernel_rfl
theorem znz:zu Tryz.prog (ziz zdq):=
 okC (A:=⟨[zgK QO,ziy zdp,zgI qm],[],[],0,[],[(6,⟨[8],⟨[.bool],[(1, .row 51)]⟩,[1,3,7],[0],[1],0,[],⟨[],[]⟩,[]⟩),(13,⟨[56],⟨[.bool],[(1, .row 51)]⟩,[],[],[1],0,[],⟨[],[]⟩,[]⟩),(21,⟨[90],⟨[.bool],[(1, .row 51)]⟩,[],[],[1],0,[],⟨[],[]⟩,[]⟩),(26,⟨[148],⟨[.bool],[]⟩,[],[1],[],0,[],⟨[],[]⟩,[]⟩)],[]⟩) (exS:=⟨[.bool],[]⟩) Tryz.f51 (memC zly (memC zny (memC zlw zL))) (by kernel_rfl) (by kernel_rfl) fun x=>by kernel_rfl
theorem zlv:zu Tryz.prog (zgH zct):=
 okC (A:=⟨[ziz zdq,zdA qi],[],[],0,[(4,⟨[3],⟨[.int .i64],[]⟩,[0],[],[],0,[],⟨[],[]⟩,[]⟩)],[(12,⟨[4],⟨[.int .i64],[]⟩,[3],[],[],0,[],⟨[],[]⟩,[]⟩),(14,⟨[],⟨[],[]⟩,[3],[],[],0,[],⟨[],[]⟩,[]⟩)],[]⟩) (exS:=⟨[.int .i64],[]⟩) Tryz.f21 (memC znz (memC zfZ zL)) (by kernel_rfl) (by kernel_rfl) fun x=>by kernel_rfl
theorem zlt:zu Tryz.prog (zgF zas):=
 okC (A:=⟨[],[],[],0,[],[],[]⟩) (exS:=⟨[.optr 0],[(0, .row 51)]⟩) Tryz.f31 zL (by kernel_rfl) (by kernel_rfl) fun x=>by kernel_rfl
theorem Q7:zu Tryz.prog (Qg strings_IndexByte):=
 okC (A:=⟨[zoo zj6],[],[],0,[],[],[]⟩) (exS:=⟨[.int .i64],[]⟩) Tryz.f59 (memC ztr zL) (by kernel_rfl) (by kernel_rfl) fun x=>by kernel_rfl
theorem zaA:zu Tryz.prog (Qh stringslite_HasPrefix):=
 okC (A:=⟨[],[],[],0,[],[],[]⟩) (exS:=⟨[.bool],[]⟩) Tryz.f126 zL (by kernel_rfl) (by kernel_rfl) fun x=>by kernel_rfl
theorem zc0:zu Tryz.prog (zaw stringslite_TrimPrefix):=
 okC (A:=⟨[Qh stringslite_HasPrefix],[],[],0,[],[],[]⟩) (exS:=⟨[.str],[]⟩) Tryz.f191 (memC zaA zL) (by kernel_rfl) (by kernel_rfl) fun x=>by kernel_rfl
theorem zeN:zu Tryz.prog (zbI strings_TrimPrefix):=
 okC (A:=⟨[zaw stringslite_TrimPrefix],[],[],0,[],[],[]⟩) (exS:=⟨[.str],[]⟩) Tryz.f146 (memC zc0 zL) (by kernel_rfl) (by kernel_rfl) fun x=>by kernel_rfl
theorem zbQ:zu Tryz.prog (zbt ZU):=
 okC (A:=⟨[],[],[],0,[],[],[]⟩) (exS:=⟨[.bool],[]⟩) Tryz.f108 zL (by kernel_rfl) (by kernel_rfl) fun x=>by kernel_rfl
theorem zeI:zu Tryz.prog (zcP QF):=
 okC (A:=⟨[zbI strings_TrimPrefix,zbt ZU],[],[],0,[],[],[]⟩) (exS:=⟨[.bool],[]⟩) Tryz.f100 (memC zeN (memC zbQ zL)) (by kernel_rfl) (by kernel_rfl) fun x=>by kernel_rfl
theorem Z6:zu Tryz.prog (ZC strings_HasPrefix):=
 okC (A:=⟨[Qh stringslite_HasPrefix],[],[],0,[],[],[]⟩) (exS:=⟨[.bool],[]⟩) Tryz.f76 (memC zaA zL) (by kernel_rfl) (by kernel_rfl) fun x=>by kernel_rfl
theorem zfX:zu Tryz.prog (zdy QE):=
 okC (A:=⟨[],[],[],0,[],[],[]⟩) (exS:=⟨[.bool],[]⟩) Tryz.f141 zL (by kernel_rfl) (by kernel_rfl) fun x=>by kernel_rfl
theorem zhi:zu Tryz.prog (zeh QU):=
 okC (A:=⟨[zdy QE,zbt ZU],[],[],0,[],[],[]⟩) (exS:=⟨[.bool],[]⟩) Tryz.f105 (memC zfX (memC zbQ zL)) (by kernel_rfl) (by kernel_rfl) fun x=>by kernel_rfl
theorem zgk:zu Tryz.prog (zcB strings_Contains):=
 okC (A:=⟨[zmK zg3],[],[],0,[],[],[]⟩) (exS:=⟨[.bool],[]⟩) Tryz.f106 (memC zpu zL) (by kernel_rfl) (by kernel_rfl) fun x=>by kernel_rfl
theorem zps:zu Tryz.prog (zjC zev):=
 okC (A:=⟨[Qg strings_IndexByte,zcP QF,ZC strings_HasPrefix,zeh QU,zcB strings_Contains],[],[],0,[],[(8,⟨[3,4,5,6,7,25],⟨[.bool, .bool, .bool, .bool, .bool, .bool],[]⟩,[1,16],[],[],0,[],⟨[],[]⟩,[]⟩),(14,⟨[3,4,5,6,7,63],⟨[.bool, .bool, .bool, .bool, .bool, .bool],[]⟩,[],[],[],0,[],⟨[],[]⟩,[]⟩),(22,⟨[4,5,6,7,94],⟨[.bool, .bool, .bool, .bool, .bool],[]⟩,[3],[],[],0,[],⟨[],[]⟩,[]⟩),(24,⟨[3,4,5,6,7],⟨[.bool, .bool, .bool, .bool, .bool],[]⟩,[1],[0],[],0,[],⟨[],[]⟩,[]⟩)],[]⟩) (exS:=⟨[.bool],[]⟩) Tryz.f58 (memC Q7 (memC zeI (memC Z6 (memC zhi (memC zgk zL))))) (by kernel_rfl) (by kernel_rfl) fun x=>by kernel_rfl
theorem zkx:zu Tryz.prog (zfK ZB):=
 okC (A:=⟨[],[],[],1,[],[],[]⟩) (exS:=⟨[.bool],[]⟩) Tryz.f97 zL (by kernel_rfl) (by kernel_rfl) fun x=>by kernel_rfl
theorem zlr:zu Tryz.prog (zgD zbb):=
 okC (A:=⟨[],[],[],0,[(3,⟨[10],⟨[.int .i64],[(0, .sl 5)]⟩,[2,3,8,9],[],[0],0,[],⟨[],[(0, .sl 5)]⟩,[0]⟩)],[(7,⟨[10],⟨[.int .i64],[(0, .sl 5)]⟩,[],[],[0],0,[],⟨[],[]⟩,[]⟩)],[]⟩) (exS:=⟨[.str],[]⟩) Tryz.f77 zL (by kernel_rfl) (by kernel_rfl) fun x=>by kernel_rfl
theorem zfY:zu Tryz.prog (zdz zaq):=
 okC (A:=⟨[zgD zbb],[],[],0,[],[],[]⟩) (exS:=⟨[.bool],[]⟩) Tryz.f78 (memC zlr zL) (by kernel_rfl) (by kernel_rfl) fun x=>by kernel_rfl
theorem zhj:zu Tryz.prog (zej Qs):=
 okC (A:=⟨[zfK ZB,zdz zaq],[],[],0,[],[(11,⟨[5],⟨[.int .i64],[]⟩,[3],[0],[],0,[],⟨[],[]⟩,[]⟩)],[]⟩) (exS:=⟨[.int .i64],[]⟩) Tryz.f53 (memC zkx (memC zfY zL)) (by kernel_rfl) (by kernel_rfl) fun x=>by kernel_rfl
theorem znr:zu Tryz.prog (zir zda):=
 okC (A:=⟨[zjC zev,zej Qs],[],[],0,[(4,⟨[10],⟨[.int .i64],[]⟩,[0,8,9],[],[],0,[],⟨[],[]⟩,[]⟩)],[],[]⟩) (exS:=⟨[.int .i64],[]⟩) Tryz.f26 (memC zps (memC zhj zL)) (by kernel_rfl) (by kernel_rfl) fun x=>by kernel_rfl
theorem zns:zu Tryz.prog (zis QT):=
 okC (A:=⟨[ZC strings_HasPrefix],[],[],0,[],[],[]⟩) (exS:=⟨[.int .i64],[]⟩) Tryz.f61 (memC Z6 zL) (by kernel_rfl) (by kernel_rfl) fun x=>by kernel_rfl
theorem zd6:zu Tryz.prog (zb9 ZM):=
 okC (A:=⟨[zbt ZU,zdy QE,zlJ zdw],[(2,[2]),(3,[1]),(5,[1])],[],1,[],[],[]⟩) (exS:=⟨[.own 1],[(1, .sl 5)]⟩) Tryz.f98 (memC zbQ (memC zfX (memC zrb zL))) (by kernel_rfl) (by kernel_rfl) fun x=>by kernel_rfl
theorem zlp:zu Tryz.prog (zgB qg):=
 okC (A:=⟨[zeh QU,zbt ZU,zb9 ZM],[(6,[2])],[],1,[(2,⟨[0,11],⟨[.own 1106, .int .i64],[(1106, .sl 5)]⟩,[1,2,6,10],[],[],0,[0],⟨[.own 1106],[(1106, .sl 5)]⟩,[1106]⟩)],[(8,⟨[0,11],⟨[.own 1208, .int .i64],[(1208, .sl 5)]⟩,[],[],[],0,[],⟨[],[]⟩,[]⟩)],[]⟩) (exS:=⟨[.own 1],[(1, .sl 5)]⟩) Tryz.f60 (memC zhi (memC zbQ (memC zd6 zL))) (by kernel_rfl) (by kernel_rfl) fun x=>by kernel_rfl
theorem znt:zu Tryz.prog (zit zdb):=
 okC (A:=⟨[],[],[],0,[],[],[]⟩) (exS:=⟨[.optr 0],[(0, .row 130)]⟩) Tryz.f101 zL (by kernel_rfl) (by kernel_rfl) fun x=>by kernel_rfl
theorem ziR:zu Tryz.prog (zei Qi):=
 okC (A:=⟨[zlI zdv,zon zgd,zrF ziK],[(2,[1]),(6,[1])],[],1,[],[(3,⟨[0,1],⟨[.own 1730, .int .i64],[(1730, .sl 5)]⟩,[2],[],[],0,[],⟨[],[]⟩,[]⟩),(9,⟨[0],⟨[.own 1833],[(1833, .sl 5)]⟩,[],[],[],0,[],⟨[],[]⟩,[]⟩)],[]⟩) (exS:=⟨[.own 1],[(1, .sl 5)]⟩) Tryz.f99 (memC zra (memC ztq (memC zvB zL))) (by kernel_rfl) (by kernel_rfl) fun x=>by kernel_rfl
theorem zlq:zu Tryz.prog (zgC zba):=
 okC (A:=⟨[zis QT,zgB qg,Qg strings_IndexByte,zb9 ZM,zei Qi,zcP QF,ZC strings_HasPrefix,zit zdb],[(5,[7]),(7,[1]),(12,[1]),(14,[1]),(20,[2]),(22,[1]),(30,[2]),(32,[1]),(38,[4])],[],1,[(16,⟨[0,67],⟨[.own 1523, .int .i64],[(1523, .sl 5)]⟩,[3,4,65,66],[1,4],[],1,[0],⟨[.own 1523],[(1523, .sl 5)]⟩,[1523]⟩),(26,⟨[0,93],⟨[.own 1627, .int .i64],[(1627, .sl 5)]⟩,[3,4,91,92],[1,3],[],3,[0],⟨[.own 1627],[(1627, .sl 5)]⟩,[1627]⟩)],[(12,⟨[5],⟨[.int .i64],[(0, .sl 5)]⟩,[0,3],[1],[0],0,[],⟨[],[]⟩,[]⟩),(21,⟨[0,67],⟨[.own 1625, .int .i64],[(1625, .sl 5)]⟩,[],[],[],0,[],⟨[],[]⟩,[]⟩),(31,⟨[0,93],⟨[.own 1729, .int .i64],[(1729, .sl 5)]⟩,[],[],[],0,[],⟨[],[]⟩,[]⟩)],[]⟩) (exS:=⟨[.own 1],[(1, .sl 5)]⟩) Tryz.f54 (memC zns (memC zlp (memC Q7 (memC zd6 (memC ziR (memC zeI (memC Z6 (memC znt zL)))))))) (by kernel_rfl) (by kernel_rfl) fun x=>by kernel_rfl
theorem zc1:zu Tryz.prog (zax Zd):=
 okC (A:=⟨[ZC strings_HasPrefix,zmK zg3],[],[],1,[(0,⟨[],⟨[],[(0, .row 100)]⟩,[0],[],[0],0,[],⟨[],[(0, .row 100)]⟩,[0]⟩)],[],[]⟩) (exS:=⟨[],[(0, .row 100)]⟩) Tryz.f103 (memC Z6 (memC zpu zL)) (by kernel_rfl) (by kernel_rfl) fun x=>by kernel_rfl
theorem zt:zu Tryz.prog (zq zf):=
 okC (A:=⟨[],[],[],1,[],[],[]⟩) (exS:=⟨[.int .i64],[]⟩) Tryz.f116 zL (by kernel_rfl) (by kernel_rfl) fun x=>by kernel_rfl
theorem zac:zu Tryz.prog (QR ZA):=
 okC (A:=⟨[],[],[],0,[],[],[]⟩) (exS:=⟨[.bool],[]⟩) Tryz.f150 zL (by kernel_rfl) (by kernel_rfl) fun x=>by kernel_rfl
theorem Qw:zu Tryz.prog (qB zM):=
 okC (A:=⟨[zq zf,QR ZA],[],[],1,[(0,⟨[],⟨[],[(0, .row 100)]⟩,[0,1],[],[0],0,[],⟨[],[(0, .row 100)]⟩,[0]⟩)],[],[]⟩) (exS:=⟨[],[(0, .row 100)]⟩) Tryz.f118 (memC zt (memC zac zL)) (by kernel_rfl) (by kernel_rfl) fun x=>by kernel_rfl
theorem zbR:zu Tryz.prog (QA ZO):=
 okC (A:=⟨[],[(2,[1]),(4,[9]),(7,[14]),(9,[19])],[],0,[],[(7,⟨[25],⟨[.bool],[]⟩,[0,1,5],[],[],0,[],⟨[],[]⟩,[]⟩)],[]⟩) (exS:=⟨[.own 0],[(0, .sl 5)]⟩) Tryz.f202 zL (by kernel_rfl) (by kernel_rfl) fun x=>by kernel_rfl
theorem zfG:zu Tryz.prog (zcf ZI):=
 okC (A:=⟨[QA ZO],[(2,[3])],[],0,[],[],[]⟩) (exS:=⟨[.own 0],[(0, .sl 5)]⟩) Tryz.f167 (memC zbR zL) (by kernel_rfl) (by kernel_rfl) fun x=>by kernel_rfl
theorem zaV:zu Tryz.prog (Q9 Zk):=
 okC (A:=⟨[],[],[],0,[],[],[]⟩) (exS:=⟨[.bool],[]⟩) Tryz.f158 zL (by kernel_rfl) (by kernel_rfl) fun x=>by kernel_rfl
theorem zab:zu Tryz.prog (QQ Zc):=
 okC (A:=⟨[Q9 Zk],[],[],0,[],[],[]⟩) (exS:=⟨[.bool],[]⟩) Tryz.f117 (memC zaV zL) (by kernel_rfl) (by kernel_rfl) fun x=>by kernel_rfl
theorem ziI:zu Tryz.prog (zf9 zai):=
 okC (A:=⟨[QQ Zc,Q9 Zk],[],[],0,[],[],[]⟩) (exS:=⟨[.int .i64],[]⟩) Tryz.f168 (memC zab (memC zaV zL)) (by kernel_rfl) (by kernel_rfl) fun x=>by kernel_rfl
theorem zcy:zu Tryz.prog (Q8 Zz):=
 okC (A:=⟨[zq zf,zcf ZI,zf9 zai,QR ZA],[(7,[3])],[],1,[(10,⟨[6,36],⟨[.int .i64, .int .i64],[(0, .row 100)]⟩,[0,1,4],[],[0],0,[6],⟨[.int .i64],[(0, .row 100)]⟩,[0]⟩)],[(17,⟨[6],⟨[.int .i64],[(0, .row 100)]⟩,[1],[],[0],0,[],⟨[],[]⟩,[]⟩),(19,⟨[6],⟨[.int .i64],[]⟩,[],[0],[],0,[],⟨[],[]⟩,[]⟩)],[]⟩) (exS:=⟨[.own 1],[(0, .row 100),(1, .sl 5)]⟩) Tryz.f125 (memC zt (memC zfG (memC ziI (memC zac zL)))) (by kernel_rfl) (by kernel_rfl) fun x=>by kernel_rfl
theorem zbS:zu Tryz.prog (QB ZP):=
 okC (A:=⟨[],[(2,[1]),(4,[9]),(7,[14]),(9,[19])],[],1,[],[(7,⟨[25],⟨[.bool],[(0, .sl 5)]⟩,[0,1,5],[],[0],0,[],⟨[],[]⟩,[]⟩)],[]⟩) (exS:=⟨[.own 1],[(1, .sl 5)]⟩) Tryz.f202 zL (by kernel_rfl) (by kernel_rfl) fun x=>by kernel_rfl
theorem zfH:zu Tryz.prog (zcg ZJ):=
 okC (A:=⟨[QB ZP],[(2,[3])],[],1,[],[],[]⟩) (exS:=⟨[.own 1],[(1, .sl 5)]⟩) Tryz.f167 (memC zbS zL) (by kernel_rfl) (by kernel_rfl) fun x=>by kernel_rfl
theorem qy:zu Tryz.prog (ZL zI):=
 okC (A:=⟨[zq zf,zcg ZJ,zf9 zai,QR ZA],[(7,[3])],[],2,[(10,⟨[6,36],⟨[.int .i64, .int .i64],[(0, .row 100)]⟩,[0,1,4],[1],[0],0,[6],⟨[.int .i64],[(0, .row 100)]⟩,[0]⟩)],[(17,⟨[6],⟨[.int .i64],[(0, .row 100),(1, .sl 5)]⟩,[1],[],[0,1],0,[],⟨[],[]⟩,[]⟩),(19,⟨[6],⟨[.int .i64],[(1, .sl 5)]⟩,[],[0],[1],0,[],⟨[],[]⟩,[]⟩)],[]⟩) (exS:=⟨[.own 2],[(0, .row 100),(2, .sl 5)]⟩) Tryz.f125 (memC zt (memC zfH (memC ziI (memC zac zL)))) (by kernel_rfl) (by kernel_rfl) fun x=>by kernel_rfl
theorem zdT:zu Tryz.prog (za6 Z7):=
 okC (A:=⟨[zq zf,ZL zI],[(5,[3])],[],1,[(4,⟨[4],⟨[.own 1835],[(0, .row 100),(1, .row 51),(1835, .sl 5)]⟩,[0,2,3],[],[0,1],0,[4],⟨[.own 1835],[(0, .row 100),(1, .row 51),(1835, .sl 5)]⟩,[0,1,1835]⟩)],[],[]⟩) (exS:=⟨[.optr 1],[(0, .row 100),(1, .row 51)]⟩) Tryz.f151 (memC zt (memC qy zL)) (by kernel_rfl) (by kernel_rfl) fun x=>by kernel_rfl
theorem zf0:zu Tryz.prog (zdB Ql):=
 okC (A:=⟨[Q9 Zk],[],[],0,[],[],[]⟩) (exS:=⟨[.bool],[]⟩) Tryz.f122 (memC zaV zL) (by kernel_rfl) (by kernel_rfl) fun x=>by kernel_rfl
theorem zeP:zu Tryz.prog (zcU Qc):=
 okC (A:=⟨[zdB Ql,QQ Zc],[],[],0,[],[],[]⟩) (exS:=⟨[.bool],[]⟩) Tryz.f124 (memC zf0 (memC zab zL)) (by kernel_rfl) (by kernel_rfl) fun x=>by kernel_rfl
theorem Zw:zu Tryz.prog (Zn zo):=
 okC (A:=⟨[zq zf],[],[],1,[],[],[]⟩) (exS:=⟨[.bool],[]⟩) Tryz.f123 (memC zt zL) (by kernel_rfl) (by kernel_rfl) fun x=>by kernel_rfl
theorem zbv:zu Tryz.prog (Q4 zB):=
 okC (A:=⟨[zq zf,zdB Ql,Zn zo],[],[],1,[],[],[]⟩) (exS:=⟨[.bool],[]⟩) Tryz.f69 (memC zt (memC zf0 (memC Zw zL))) (by kernel_rfl) (by kernel_rfl) fun x=>by kernel_rfl
theorem QJ:zu Tryz.prog (qI zG):=
 okC (A:=⟨[zq zf,zcU Qc,Zn zo,ZL zI],[(5,[3])],[],1,[(2,⟨[3],⟨[.own 1836],[(0, .row 100),(1836, .sl 5)]⟩,[0],[],[0],0,[],⟨[],[]⟩,[]⟩)],[],[]⟩) (exS:=⟨[.str],[(0, .row 100)]⟩) Tryz.f70 (memC zt (memC zeP (memC Zw (memC qy zL)))) (by kernel_rfl) (by kernel_rfl) fun x=>by kernel_rfl
theorem zdS:zu Tryz.prog (za5 Zi):=
 okC (A:=⟨[zq zf,QQ Zc],[],[],1,[],[(5,⟨[3],⟨[.int .i64],[]⟩,[0],[],[],0,[],⟨[],[]⟩,[]⟩),(7,⟨[3],⟨[.int .i64],[]⟩,[],[],[],0,[],⟨[],[]⟩,[]⟩)],[]⟩) (exS:=⟨[.bool],[]⟩) Tryz.f66 (memC zt (memC zab zL)) (by kernel_rfl) (by kernel_rfl) fun x=>by kernel_rfl
theorem zdi:zu Tryz.prog (zaN zJ):=
 okC (A:=⟨[zq zf,QQ Zc],[],[],1,[(0,⟨[],⟨[],[(0, .row 100)]⟩,[0,1],[],[0],0,[],⟨[],[(0, .row 100)]⟩,[0]⟩)],[],[]⟩) (exS:=⟨[],[(0, .row 100)]⟩) Tryz.f118 (memC zt (memC zab zL)) (by kernel_rfl) (by kernel_rfl) fun x=>by kernel_rfl
theorem zdg:zu Tryz.prog (zaL ZT):=
 okC (A:=⟨[zq zf,zaN zJ,QQ Zc],[],[],1,[],[(4,⟨[],⟨[],[(0, .row 100)]⟩,[0],[],[0],0,[],⟨[],[]⟩,[]⟩),(10,⟨[4],⟨[.bool],[(0, .row 100)]⟩,[],[],[0],0,[],⟨[],[]⟩,[]⟩),(15,⟨[4,5],⟨[.bool, .int .i64],[(0, .row 100)]⟩,[],[],[0],0,[],⟨[],[]⟩,[]⟩),(19,⟨[4],⟨[.bool],[(0, .row 100)]⟩,[],[],[0],0,[],⟨[],[]⟩,[]⟩)],[]⟩) (exS:=⟨[.bool],[(0, .row 100)]⟩) Tryz.f67 (memC zt (memC zdi (memC zab zL))) (by kernel_rfl) (by kernel_rfl) fun x=>by kernel_rfl
theorem zfF:zu Tryz.prog (zce ZH):=
 okC (A:=⟨[zrE ze7,zjD QG,zyt cutF],[],[],0,[(8,⟨[6,31],⟨[.int .i64, .int .i64],[]⟩,[0,2,3,4,5,29,30],[0],[],0,[6],⟨[.int .i64],[]⟩,[]⟩),(22,⟨[12,81],⟨[.int .i64, .int .i64],[]⟩,[4,79,80],[0],[],2,[12],⟨[.int .i64],[]⟩,[]⟩),(26,⟨[4,12],⟨[.int .i64, .int .i64],[]⟩,[],[],[],4,[12],⟨[.int .i64],[]⟩,[]⟩)],[(14,⟨[0,4,6],⟨[.str, .int .i64, .int .i64],[]⟩,[3,5],[],[],0,[],⟨[],[]⟩,[]⟩),(15,⟨[0,4],⟨[.str, .int .i64],[]⟩,[3],[],[],0,[],⟨[],[]⟩,[]⟩),(20,⟨[0,4],⟨[.str, .int .i64],[]⟩,[],[],[],0,[],⟨[],[]⟩,[]⟩),(31,⟨[12],⟨[.int .i64],[]⟩,[],[],[],0,[],⟨[],[]⟩,[]⟩)],[]⟩) (exS:=⟨[.int .i64],[]⟩) Tryz.f68 (memC zvA (memC zpt (memC zzN zL))) (by kernel_rfl) (by kernel_rfl) fun x=>by kernel_rfl
theorem zdh:zu Tryz.prog (zaM Zt):=
 okC (A:=⟨[zaL ZT,zce ZH,Q4 zB,qI zG,zq zf],[],[],1,[],[(9,⟨[],⟨[],[(0, .row 100),(1, .row 51),(2, .row 51)]⟩,[2,5],[],[0,1,2],0,[],⟨[],[]⟩,[]⟩)],[]⟩) (exS:=⟨[.optr 1],[(0, .row 100),(1, .row 51)]⟩) Tryz.f152 (memC zdg (memC zfF (memC zbv (memC QJ (memC zt zL))))) (by kernel_rfl) (by kernel_rfl) fun x=>by kernel_rfl
theorem zfD:zu Tryz.prog (zcc ZG):=
 okC (A:=⟨[zq zf,Zn zo,Q8 Zz],[],[],1,[(1,⟨[],⟨[],[(0, .row 100),(1, .row 51)]⟩,[0,2],[],[0,1],0,[],⟨[],[]⟩,[]⟩)],[],[]⟩) (exS:=⟨[.optr 1],[(0, .row 100),(1, .row 51)]⟩) Tryz.f216 (memC zt (memC Zw (memC zcy zL))) (by kernel_rfl) (by kernel_rfl) fun x=>by kernel_rfl
theorem zfE:zu Tryz.prog (zcd qX):=
 okC (A:=⟨[qB zM,zq zf,QR ZA,zcc ZG,Q9 Zk,Zn zo,ZL zI],[(18,[3])],[],1,[(3,⟨[3],⟨[.own 1837],[(0, .row 100),(1, .row 51),(1837, .sl 5)]⟩,[0,2],[],[0,1],0,[],⟨[],[]⟩,[]⟩)],[(10,⟨[3,4],⟨[.own 1837, .int .i64],[(0, .row 100),(1, .row 51),(1837, .sl 5)]⟩,[],[],[0,1,1837],0,[],⟨[],[]⟩,[]⟩)],[]⟩) (exS:=⟨[.optr 1],[(0, .row 100),(1, .row 51)]⟩) Tryz.f196 (memC Qw (memC zt (memC zac (memC zfD (memC zaV (memC Zw (memC qy zL))))))) (by kernel_rfl) (by kernel_rfl) fun x=>by kernel_rfl
theorem zd9:zu Tryz.prog (zbu Zq):=
 okC (A:=⟨[qI zG,zq zf,zdz zaq,qB zM,zcd qX],[],[],1,[],[(11,⟨[],⟨[],[(0, .row 100),(1, .row 51)]⟩,[2,3],[],[0,1],0,[],⟨[],[]⟩,[]⟩)],[]⟩) (exS:=⟨[.optr 1],[(0, .row 100),(1, .row 51)]⟩) Tryz.f153 (memC QJ (memC zt (memC zfY (memC Qw (memC zfE zL))))) (by kernel_rfl) (by kernel_rfl) fun x=>by kernel_rfl
theorem zeQ:zu Tryz.prog (zbJ ZY):=
 okC (A:=⟨[zq zf,QR ZA,qB zM,za6 Z7,zcU Qc,Zn zo,Q4 zB,qI zG,za5 Zi,zaM Zt,ZC strings_HasPrefix,zbu Zq,Qg strings_IndexByte],[],[],1,[],[],[]⟩) (exS:=⟨[.optr 1],[(0, .row 100),(1, .row 51)]⟩) Tryz.f104 (memC zt (memC zac (memC Qw (memC zdT (memC zeP (memC Zw (memC zbv (memC QJ (memC zdS (memC zdh (memC Z6 (memC zd9 (memC Q7 zL))))))))))))) (by kernel_rfl) (by kernel_rfl) fun x=>by kernel_rfl
theorem zgl:zu Tryz.prog (zcC Qo):=
 okC (A:=⟨[],[(1,[2])],[],2,[],[],[]⟩) (exS:=⟨[],[(0, .cells 41 [.own 2]),(2, .sl 51)]⟩) Tryz.f57 zL (by kernel_rfl) (by kernel_rfl) fun x=>by kernel_rfl
theorem zkB:zu Tryz.prog (zfO zbx):=
 okC (A:=⟨[zrD zgM,zax Zd,zbJ ZY,zcC Qo],[],[],1,[(7,⟨[7],⟨[.int .i64],[(0, .cells 41 [.own 1838]),(1838, .sl 51),(1, .row 100)]⟩,[0,1,6],[],[0,1],0,[],⟨[],[(0, .cells 41 [.own 1838]),(1838, .sl 51),(1, .row 100)]⟩,[0,1,1838]⟩)],[],[]⟩) (exS:=⟨[.int .i64],[(0, .cells 41 [.own 1]),(1, .sl 51)]⟩) Tryz.f56 (memC zvz (memC zc1 (memC zeQ (memC zgl zL)))) (by kernel_rfl) (by kernel_rfl) fun x=>by kernel_rfl
theorem zeO:zu Tryz.prog (zcT QP):=
 okC (A:=⟨[zfO zbx],[],[],0,[],[],[]⟩) (exS:=⟨[.sl 51, .int .i64],[]⟩) Tryz.f24 (memC zkB zL) (by kernel_rfl) (by kernel_rfl) fun x=>by kernel_rfl
theorem zeM:zu Tryz.prog (zbH ZX):=
 okC (A:=⟨[],[],[],0,[(4,⟨[13],⟨[.int .i64],[]⟩,[0,1,12],[],[],0,[],⟨[],[]⟩,[]⟩)],[],[]⟩) (exS:=⟨[.bool],[]⟩) Tryz.f55 zL (by kernel_rfl) (by kernel_rfl) fun x=>by kernel_rfl
theorem zhh:zu Tryz.prog (zeg zay):=
 okC (A:=⟨[zir zda,zej Qs,zgC zba,zcT QP,zbH ZX],[(24,[5])],[],0,[(7,⟨[5,6,7],⟨[.own 1940, .own 1941, .int .i64],[(1940, .sl 5),(1941, .sl 89)]⟩,[0],[],[],0,[5],⟨[.own 1940],[(1940, .sl 5)]⟩,[1940]⟩),(11,⟨[9,36],⟨[.own 1521, .int .i64],[(1521, .sl 5)]⟩,[5,6,7,8,34,35],[1940,1941],[],2,[9],⟨[.own 1521],[(1521, .sl 5)]⟩,[1521]⟩)],[(17,⟨[5,6,7,9],⟨[.own 1940, .own 1941, .int .i64, .own 2043],[(1940, .sl 5),(1941, .sl 89),(2043, .sl 5)]⟩,[8],[],[1940,1941],0,[],⟨[],[]⟩,[]⟩),(21,⟨[5,6,7],⟨[.own 1940, .own 1941, .int .i64],[(1940, .sl 5),(1941, .sl 89),(2044, .row 89)]⟩,[9,12],[2043],[1940,1941,2044],0,[],⟨[],[]⟩,[]⟩),(24,⟨[5,6,7],⟨[.own 2148, .own 1941, .int .i64],[(1941, .sl 89),(2148, .sl 5)]⟩,[],[2044],[1941],0,[],⟨[],[]⟩,[]⟩)],[]⟩) (exS:=⟨[.str, .int .i64],[]⟩) Tryz.f23 (memC znr (memC zhj (memC zlq (memC zeO (memC zeM zL))))) (by kernel_rfl) (by kernel_rfl) fun x=>by kernel_rfl
theorem zky:zu Tryz.prog (zfL qa):=
 okC (A:=⟨[zeg zay],[],[],0,[],[],[]⟩) (exS:=⟨[.bool],[]⟩) Tryz.f29 (memC zhh zL) (by kernel_rfl) (by kernel_rfl) fun x=>by kernel_rfl
theorem zls:zu Tryz.prog (zgE zar):=
 okC (A:=⟨[zgF zas,zfL qa],[(1,[1,5,10,16,22,27])],[],0,[],[],[]⟩) (exS:=⟨[.bool],[]⟩) Tryz.f22 (memC zlt (memC zky zL)) (by kernel_rfl) (by kernel_rfl) fun x=>by kernel_rfl
theorem znu:zu Tryz.prog (ziu zdk):=
 okC (A:=⟨[],[],[],0,[(4,⟨[5],⟨[.int .i64],[]⟩,[0,1],[],[],0,[],⟨[],[]⟩,[]⟩)],[],[]⟩) (exS:=⟨[.bool],[]⟩) Tryz.f25 zL (by kernel_rfl) (by kernel_rfl) fun x=>by kernel_rfl
theorem zh3:zu Tryz.prog (zd3 zbl):=
 okC (A:=⟨[zgJ zcu,zgH zct,zgE zar,zeg zay,zcT QP,ziu zdk],[],[],0,[],[],[]⟩) (exS:=⟨[.bool],[]⟩) Tryz.f4 (memC zlx (memC zlv (memC zls (memC zhh (memC zeO (memC znu zL)))))) (by kernel_rfl) (by kernel_rfl) fun x=>by kernel_rfl
end Go.Lv.VT
