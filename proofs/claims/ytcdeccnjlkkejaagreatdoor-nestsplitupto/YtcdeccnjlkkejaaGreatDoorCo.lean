/- Contracts. -/
import Derived.Test.YtcdeccnjlkkejaaGreatDoorTx
import Derived.Test.YtcdeccnjlkkejaaGreatDoorIp
import Derived.Test.YtcdeccnjlkkejaaGreatDoorLf
import Derived.Test.YtcdeccnjlkkejaaGreatDoorPa
set_option linter.unusedSimpArgs false
set_option linter.unusedVariables false
namespace Go.Lv.VT
set_option maxRecDepth 100000
open Go.Proofs
theorem okC{con:Con I}{A:Env0 I}{exS:StSh}(f:Go.Func)(hS: ∀c∈A.S,zn Tryz.prog c)(hf:Tryz.prog.funcs[con.f]? =some f)(h:chk con A f=true)(he: ∀x,evF2 A T FK f.ntmps (rsl f) (body f) con exS x=con.F x):zn Tryz.prog con:=
 okC0 mixed ipOK tok rfl rfl hS hf h he
noncomputable def zbA(F:List ze×Int→Option Int):Con I:=⟨58,⟨[.sl 49, .int .i64],[]⟩,[],⟨[.int .i64],[]⟩,0,F⟩
noncomputable def zbo(F:Int→Option Int):Con I:=⟨25,⟨[.int .u8],[]⟩,[],⟨[.int .u8],[]⟩,0,F⟩
noncomputable def zau(F:List ze→Option Int):Con I:=⟨59,⟨[.sl 49],[]⟩,[],⟨[.int .i64],[]⟩,0,F⟩
noncomputable def zfV(F:List ze→Option Bool):Con I:=⟨15,⟨[.sl 49],[]⟩,[],⟨[.bool],[]⟩,0,F⟩
noncomputable def Q0(F:List ze→Option (List zf)):Con I:=⟨36,⟨[.sl 49],[]⟩,[],⟨[.sl 44],[]⟩,0,F⟩
noncomputable def Q3(F:List ze×Int→Option Bool):Con I:=⟨66,⟨[.sl 49, .int .u8],[]⟩,[],⟨[.bool],[]⟩,0,F⟩
noncomputable def zfU(F:List ze→Option Int):Con I:=⟨27,⟨[.sl 49],[]⟩,[],⟨[.int .i64],[]⟩,0,F⟩
noncomputable def Qg(F:Str×Str→Option Bool):Con I:=⟨130,⟨[.str, .str],[]⟩,[],⟨[.bool],[]⟩,0,F⟩
noncomputable def ZB(F:Str×Str→Option Bool):Con I:=⟨93,⟨[.str, .str],[]⟩,[],⟨[.bool],[]⟩,0,F⟩
noncomputable def zaw(F:za→Option za):Con I:=⟨100,⟨[.optr 0],[(0, .row 133)]⟩,[],⟨[],[(0, .row 133)]⟩,0,F⟩
noncomputable def zt(F:Int×za→Option Int):Con I:=⟨137,⟨[.optr 0, .int .i64],[(0, .row 133)]⟩,[0],⟨[.int .i64],[]⟩,0,F⟩
noncomputable def QM(F:Int→Option Bool):Con I:=⟨138,⟨[.int .i64],[]⟩,[],⟨[.bool],[]⟩,0,F⟩
noncomputable def qw(F:za→Option za):Con I:=⟨139,⟨[.optr 0, .clo 138 []],[(0, .row 133)]⟩,[],⟨[],[(0, .row 133)]⟩,0,F⟩
noncomputable def Qz(F:Int→Option (List UInt8)):Con I:=⟨237,⟨[.nilv, .int .i32],[]⟩,[],⟨[.own 0],[(0, .sl 5)]⟩,1,F⟩
noncomputable def zcl(F:Int→Option (List UInt8)):Con I:=⟨210,⟨[.nilv, .int .i32],[]⟩,[],⟨[.own 0],[(0, .sl 5)]⟩,1,F⟩
noncomputable def Q5(F:Int×Int×Int→Option Bool):Con I:=⟨212,⟨[.int .i64, .int .i64, .int .i64],[]⟩,[],⟨[.bool],[]⟩,0,F⟩
noncomputable def QL(F:Int→Option Bool):Con I:=⟨174,⟨[.int .i64],[]⟩,[],⟨[.bool],[]⟩,0,F⟩
noncomputable def zfp(F:Int→Option Int):Con I:=⟨211,⟨[.int .i64],[]⟩,[],⟨[.int .i64],[]⟩,0,F⟩
noncomputable def Q4(F:za→Option (za×List UInt8)):Con I:=⟨172,⟨[.optr 0, .nilv],[(0, .row 133)]⟩,[],⟨[.own 1],[(0, .row 133),(1, .sl 5)]⟩,1,F⟩
noncomputable def QA(F:Int×List UInt8→Option (List UInt8)):Con I:=⟨237,⟨[.own 0, .int .i32],[(0, .sl 5)]⟩,[],⟨[.own 1],[(1, .sl 5)]⟩,1,F⟩
noncomputable def zcm(F:Int×List UInt8→Option (List UInt8)):Con I:=⟨210,⟨[.own 0, .int .i32],[(0, .sl 5)]⟩,[],⟨[.own 1],[(1, .sl 5)]⟩,1,F⟩
noncomputable def ZI(F:za×List UInt8→Option (za×List UInt8)):Con I:=⟨172,⟨[.optr 0, .own 1],[(0, .row 133),(1, .sl 5)]⟩,[],⟨[.own 2],[(0, .row 133),(2, .sl 5)]⟩,1,F⟩
noncomputable def za5(F:za→Option (zf×za)):Con I:=⟨140,⟨[.optr 0],[(0, .row 133)]⟩,[],⟨[.val 44],[(0, .row 133)]⟩,0,F⟩
noncomputable def zdA(F:Int→Option Bool):Con I:=⟨173,⟨[.int .i64],[]⟩,[],⟨[.bool],[]⟩,0,F⟩
noncomputable def zcW(F:Int→Option Bool):Con I:=⟨141,⟨[.int .i64],[]⟩,[],⟨[.bool],[]⟩,0,F⟩
noncomputable def Zf(F:Int×za→Option Bool):Con I:=⟨142,⟨[.optr 0, .int .i64],[(0, .row 133)]⟩,[0],⟨[.bool],[]⟩,0,F⟩
noncomputable def QU(F:Int×za→Option Bool):Con I:=⟨143,⟨[.optr 0, .int .i64],[(0, .row 133)]⟩,[0],⟨[.bool],[]⟩,0,F⟩
noncomputable def qL(F:za→Option (Str×za)):Con I:=⟨144,⟨[.optr 0],[(0, .row 133)]⟩,[],⟨[.str],[(0, .row 133)]⟩,0,F⟩
noncomputable def za4(F:za→Option Bool):Con I:=⟨145,⟨[.optr 0],[(0, .row 133)]⟩,[0],⟨[.bool],[]⟩,0,F⟩
noncomputable def zaH(F:za→Option za):Con I:=⟨139,⟨[.optr 0, .clo 174 []],[(0, .row 133)]⟩,[],⟨[],[(0, .row 133)]⟩,0,F⟩
noncomputable def zaF(F:za→Option (Bool×za)):Con I:=⟨175,⟨[.optr 0],[(0, .row 133)]⟩,[],⟨[.bool],[(0, .row 133)]⟩,0,F⟩
noncomputable def zck(F:Str→Option Int):Con I:=⟨176,⟨[.str],[]⟩,[],⟨[.int .i64],[]⟩,0,F⟩
noncomputable def zaG(F:za→Option (zf×za)):Con I:=⟨146,⟨[.optr 0],[(0, .row 133)]⟩,[],⟨[.val 44],[(0, .row 133)]⟩,0,F⟩
noncomputable def zfQ(F:Str→Option Str):Con I:=⟨108,⟨[.str],[]⟩,[],⟨[.str],[]⟩,0,F⟩
noncomputable def zdz(F:Str×Str→Option Bool):Con I:=⟨109,⟨[.str, .str],[]⟩,[],⟨[.bool],[]⟩,0,F⟩
noncomputable def zci(F:za→Option (zf×za)):Con I:=⟨216,⟨[.optr 0],[(0, .row 133)]⟩,[],⟨[.val 44],[(0, .row 133)]⟩,0,F⟩
noncomputable def zcj(F:za→Option (zf×za)):Con I:=⟨177,⟨[.optr 0],[(0, .row 133)]⟩,[],⟨[.val 44],[(0, .row 133)]⟩,0,F⟩
noncomputable def zbB(F:za→Option (zf×za)):Con I:=⟨147,⟨[.optr 0],[(0, .row 133)]⟩,[],⟨[.val 44],[(0, .row 133)]⟩,0,F⟩
noncomputable def Qf(F:Str×Int→Option Int):Con I:=⟨119,⟨[.str, .int .u8],[]⟩,[],⟨[.int .i64],[]⟩,0,F⟩
noncomputable def zbQ(F:za→Option (zf×za)):Con I:=⟨101,⟨[.optr 0],[(0, .row 133)]⟩,[],⟨[.val 44],[(0, .row 133)]⟩,0,F⟩
noncomputable def zcK(F:(zf×Int×Int)×List zf→Option (List zf)):Con I:=⟨70,⟨[.val 44, .int .i64, .int .i64, .optr 0],[(0, .cells 22 [.own 1]),(1, .sl 44)]⟩,[],⟨[],[(0, .cells 22 [.own 2]),(2, .sl 44)]⟩,1,F⟩
noncomputable def ze8(F:Str→Option (Int×List zf)):Con I:=⟨69,⟨[.str, .clo 70 [0]],[(0, .cells 22 [.nilv])]⟩,[],⟨[.int .i64],[(0, .cells 22 [.own 1]),(1, .sl 44)]⟩,1,F⟩
noncomputable def zbp(F:Str→Option (List zf×Int)):Con I:=⟨33,⟨[.str],[]⟩,[],⟨[.sl 44, .int .i64],[]⟩,0,F⟩
noncomputable def QK(F:Int→Option Int):Con I:=⟨61,⟨[.int .u8],[]⟩,[],⟨[.int .u8],[]⟩,0,F⟩
noncomputable def za7(F:List ze×Int→Option zo):Con I:=⟨65,⟨[.sl 49, .int .u8],[]⟩,[],⟨[.val 101],[]⟩,0,F⟩
noncomputable def zby(F:List ze→Option Int):Con I:=⟨32,⟨[.sl 49],[]⟩,[],⟨[.int .i64],[]⟩,0,F⟩
noncomputable def zaE(F:List ze×List zf→Option (List zf)):Con I:=⟨63,⟨[.own 0, .sl 49],[(0, .sl 44)]⟩,[],⟨[.own 1],[(1, .sl 44)]⟩,1,F⟩
noncomputable def zkX(F:List ze→Option (List zf)):Con I:=⟨63,⟨[.nilv, .sl 49],[]⟩,[],⟨[.own 0],[(0, .sl 44)]⟩,1,F⟩
noncomputable def zav(F:Str×Str→Option Str):Con I:=⟨197,⟨[.str, .str],[]⟩,[],⟨[.str],[]⟩,0,F⟩
noncomputable def zbP(F:Str×Str→Option Str):Con I:=⟨162,⟨[.str, .str],[]⟩,[],⟨[.str],[]⟩,0,F⟩
noncomputable def zbx(F:Int→Option Bool):Con I:=⟨155,⟨[.int .u8],[]⟩,[],⟨[.bool],[]⟩,0,F⟩
noncomputable def zcV(F:Str→Option Bool):Con I:=⟨122,⟨[.str],[]⟩,[],⟨[.bool],[]⟩,0,F⟩
noncomputable def zdy(F:Int→Option Bool):Con I:=⟨157,⟨[.int .u8],[]⟩,[],⟨[.bool],[]⟩,0,F⟩
noncomputable def zd3(F:Int→Option Bool):Con I:=⟨153,⟨[.int .u8],[]⟩,[],⟨[.bool],[]⟩,0,F⟩
noncomputable def zcJ(F:Str×Str→Option Bool):Con I:=⟨154,⟨[.str, .str],[]⟩,[],⟨[.bool],[]⟩,0,F⟩
noncomputable def zia(F:zf→Option Bool):Con I:=⟨115,⟨[.val 44],[]⟩,[],⟨[.bool],[]⟩,0,F⟩
noncomputable def ze6(F:(Int×Int)×List zf→Option Bool):Con I:=⟨116,⟨[.int .i64, .int .u8, .optr 0],[(0, .row 22)]⟩,[0],⟨[.bool],[]⟩,0,F⟩
noncomputable def zd5(F:List zf→Option Int):Con I:=⟨80,⟨[.sl 44],[]⟩,[],⟨[.int .i64],[]⟩,0,F⟩
noncomputable def zhe(F:List zf→Option Int):Con I:=⟨79,⟨[.sl 44],[]⟩,[],⟨[.int .i64],[]⟩,0,F⟩
noncomputable def zhg(F:Str→Option Int):Con I:=⟨118,⟨[.str],[]⟩,[],⟨[.int .i64],[]⟩,0,F⟩
noncomputable def zch(F:Int×List UInt8→Option (List UInt8)):Con I:=⟨120,⟨[.own 0, .int .u8],[(0, .sl 5)]⟩,[],⟨[.own 1],[(1, .sl 5)]⟩,1,F⟩
noncomputable def zfO(F:(Str×Int)×List UInt8→Option (List UInt8)):Con I:=⟨117,⟨[.own 0, .str, .int .i64],[(0, .sl 5)]⟩,[],⟨[.own 1],[(1, .sl 5)]⟩,1,F⟩
noncomputable def zhh(F:Unit→Option qm):Con I:=⟨123,⟨[],[]⟩,[],⟨[.val 149],[]⟩,0,F⟩
noncomputable def zd4(F:(Int×Bool)×List UInt8→Option (List UInt8)):Con I:=⟨121,⟨[.own 0, .int .i64, .bool],[(0, .sl 5)]⟩,[],⟨[.own 1],[(1, .sl 5)]⟩,1,F⟩
noncomputable def zfP(F:zf×List UInt8→Option (List UInt8)):Con I:=⟨81,⟨[.own 0, .val 44],[(0, .sl 5)]⟩,[],⟨[.own 1],[(1, .sl 5)]⟩,1,F⟩
noncomputable def zbO(F:List zf×List zf→Option Bool):Con I:=⟨82,⟨[.sl 44, .sl 44],[]⟩,[],⟨[.bool],[]⟩,0,F⟩
noncomputable def zhf(F:List zf→Option (Str×Int)):Con I:=⟨46,⟨[.sl 44],[]⟩,[],⟨[.str, .int .i64],[]⟩,0,F⟩
noncomputable def zic(F:List ze→Option (Str×Int)):Con I:=⟨20,⟨[.sl 49],[]⟩,[],⟨[.str, .int .i64],[]⟩,0,F⟩
noncomputable def zhi(F:List ze→Option (Int×Int)):Con I:=⟨26,⟨[.sl 49],[]⟩,[],⟨[.int .i64, .int .i64],[]⟩,0,F⟩
noncomputable def zfS(F:Str→Option (Str×Int×Bool)):Con I:=⟨31,⟨[.str],[]⟩,[],⟨[.str, .int .i64, .bool],[]⟩,0,F⟩
noncomputable def zfR(F:Unit→Option Bool):Con I:=⟨24,⟨[],[]⟩,[],⟨[.bool],[]⟩,0,F⟩
noncomputable def zbN(F:List ze→Option (List ze)):Con I:=⟨98,⟨[.sl 49],[]⟩,[],⟨[.own 0],[(0, .sl 49)]⟩,1,F⟩
noncomputable def za8(F:List ze→Option (List ze)):Con I:=⟨67,⟨[.sl 49],[]⟩,[],⟨[.sl 49],[]⟩,0,F⟩
noncomputable def zhj(F:List ze×Int→Option (List (List ze)×Int)):Con I:=⟨28,⟨[.sl 49, .int .u8],[]⟩,[],⟨[.sl 23, .int .i64],[]⟩,0,F⟩
noncomputable def zbz(F:List ze×List ze→Option Bool):Con I:=⟨22,⟨[.sl 49, .sl 49],[]⟩,[],⟨[.bool],[]⟩,0,F⟩
noncomputable def zfT(F:Int×List ze→Option Bool):Con I:=⟨68,⟨[.int .i64, .optr 0],[(0, .row 23)]⟩,[0],⟨[.bool],[]⟩,0,F⟩
noncomputable def zid(F:List ze→Option (List ze×Int)):Con I:=⟨29,⟨[.sl 49],[]⟩,[],⟨[.sl 49, .int .i64],[]⟩,0,F⟩
noncomputable def zda(F:List ze×Int→Option Bool):Con I:=⟨5,⟨[.sl 49, .int .u8],[]⟩,[],⟨[.bool],[]⟩,0,F⟩
noncomputable def ze7(F:List ze→Option (List zf)):Con I:=⟨63,⟨[.nilv, .sl 49],[]⟩,[],⟨[.sl 44],[]⟩,0,F⟩
noncomputable def zoS(F:Str→Option (Str×Int)):Con I:=⟨99,⟨[.str],[]⟩,[],⟨[.str, .int .i64],[]⟩,0,F⟩
theorem zrP:zn Tryz.prog (zoS zik):=zrm
noncomputable def zmi(F:Str×Int→Option Int):Con I:=⟨156,⟨[.str, .int .u8],[]⟩,[],⟨[.int .i64],[]⟩,0,F⟩
theorem zqa:zn Tryz.prog (zmi zfw):=zpU
noncomputable def zkW(F:Str×Str→Option Int):Con I:=⟨136,⟨[.str, .str],[]⟩,[],⟨[.int .i64],[]⟩,0,F⟩
theorem znb:zn Tryz.prog (zkW zhq):=zrn
noncomputable def zoT(F:Str×Str→Option Str):Con I:=⟨213,⟨[.str, .str],[]⟩,[],⟨[.str],[]⟩,0,F⟩
theorem zrQ:zn Tryz.prog (zoT zjq):=zrp
noncomputable def zoU(F:Str×Str→Option Str):Con I:=⟨160,⟨[.str, .str],[]⟩,[],⟨[.str],[]⟩,0,F⟩
theorem zrR:zn Tryz.prog (zoU zhv):=zrq
noncomputable def zib(F:Str×Str→Option Int):Con I:=⟨214,⟨[.str, .str],[]⟩,[],⟨[.int .i64],[]⟩,0,F⟩
theorem zna:zn Tryz.prog (zib zdh):=zmH
noncomputable def ztH(F:Str×Str→Option (Str×Str×Bool)):Con I:=⟨215,⟨[.str, .str],[]⟩,[],⟨[.str, .str, .bool],[]⟩,0,F⟩
theorem zun:zn Tryz.prog (ztH cutF):=zue
noncomputable def zmh(F:Int×Int→Option Str):Con I:=⟨161,⟨[.int .i64, .int .i64],[]⟩,[],⟨[.str],[]⟩,0,F⟩
theorem zp9:zn Tryz.prog (zmh zgN):=zpT
noncomputable def zka(F:(Int×Int)×List UInt8→Option (List UInt8)):Con I:=⟨158,⟨[.own 0, .int .u64, .int .i64],[(0, .sl 5)]⟩,[],⟨[.own 1],[(1, .sl 5)]⟩,1,F⟩
theorem zos:zn Tryz.prog (zka zeI):=zoc
noncomputable def zj9(F:(Int×Int)×List UInt8→Option (List UInt8)):Con I:=⟨159,⟨[.own 0, .int .i64, .int .i64],[(0, .sl 5)]⟩,[],⟨[.own 1],[(1, .sl 5)]⟩,1,F⟩
theorem zor:zn Tryz.prog (zj9 zeH):=zob
noncomputable def zkY(F:List zf→Option (List ze×Int)):Con I:=⟨16,⟨[.sl 44],[]⟩,[],⟨[.sl 49, .int .i64],[]⟩,0,F⟩
theorem zne:zn Tryz.prog (zkY parseF):=zro
theorem zlP(qp:List ze×Int→Option Int)(hs:zn Tryz.prog (zbA qp)):zn Tryz.prog (zbA (zaB qp)):=
 okC (A:=⟨[zbA qp],[],[],0,[(3,⟨[5,6],⟨[.int .i64, .int .i64],[]⟩,[0,1,4],[],[],0,[5],⟨[.int .i64],[]⟩,[]⟩)],[],[]⟩) (exS:=⟨[.int .i64],[]⟩) Tryz.f58 (memC hs zQ) (by kernel_rfl) (by kernel_rfl) fun x=>by kernel_rfl
theorem zlA:zn Tryz.prog (zbA qp):=
 zn.recE (I:=I) (P:=Tryz.prog) (f:=58) (inS:=⟨[.sl 49, .int .i64],[]⟩) (cst:=[]) (outS:=⟨[.int .i64],[]⟩) (k:=0) (zaB) (by kernel_rfl) (fun S h=>zlP S h)
theorem zcx:zn Tryz.prog (zbo qB):=
 okC (A:=⟨[],[],[],0,[],[(6,⟨[6],⟨[.bool],[]⟩,[3],[],[],0,[],⟨[],[]⟩,[]⟩)],[]⟩) (exS:=⟨[.int .u8],[]⟩) Tryz.f25 zQ (by kernel_rfl) (by kernel_rfl) fun x=>by kernel_rfl
theorem zlN(qo:List ze→Option Int)(hs:zn Tryz.prog (zau qo)):zn Tryz.prog (zau (zcP qo)):=
 okC (A:=⟨[zbo qB,zau qo],[],[],0,[(3,⟨[3,4],⟨[.int .i64, .int .i64],[]⟩,[0,2],[],[],0,[3],⟨[.int .i64],[]⟩,[]⟩)],[(4,⟨[3,4],⟨[.int .i64, .int .i64],[]⟩,[],[],[],0,[],⟨[],[]⟩,[]⟩)],[]⟩) (exS:=⟨[.int .i64],[]⟩) Tryz.f59 (memC zcx (memC hs zQ)) (by kernel_rfl) (by kernel_rfl) fun x=>by kernel_rfl
theorem zgk:zn Tryz.prog (zau qo):=
 zn.recE (I:=I) (P:=Tryz.prog) (f:=59) (inS:=⟨[.sl 49],[]⟩) (cst:=[]) (outS:=⟨[.int .i64],[]⟩) (k:=0) (zcP) (by kernel_rfl) (fun S h=>zlN S h)
theorem zj2:zn Tryz.prog (zfV zcA):=
 okC (A:=⟨[zbA qp,zau qo],[],[],0,[],[],[]⟩) (exS:=⟨[.bool],[]⟩) Tryz.f15 (memC zlA (memC zgk zQ)) (by kernel_rfl) (by kernel_rfl) fun x=>by kernel_rfl
theorem zji(Z0:List ze→Option (List zf))(hs:zn Tryz.prog (Q0 Z0)):zn Tryz.prog (Q0 (zbs Z0)):=
 okC (A:=⟨[zbo qB,Q0 Z0],[(5,[6]),(9,[3])],[],0,[(3,⟨[3,4],⟨[.own 1001, .int .i64],[(1001, .sl 44)]⟩,[0,2],[],[],0,[3],⟨[.own 1001],[(1001, .sl 44)]⟩,[1001]⟩)],[(4,⟨[3,4],⟨[.own 1103, .int .i64],[(1103, .sl 44)]⟩,[],[],[],0,[],⟨[],[]⟩,[]⟩)],[]⟩) (exS:=⟨[.sl 44],[]⟩) Tryz.f36 (memC zcx (memC hs zQ)) (by kernel_rfl) (by kernel_rfl) fun x=>by kernel_rfl
theorem zi1:zn Tryz.prog (Q0 Z0):=
 zn.recE (I:=I) (P:=Tryz.prog) (f:=36) (inS:=⟨[.sl 49],[]⟩) (cst:=[]) (outS:=⟨[.sl 44],[]⟩) (k:=0) (zbs) (by kernel_rfl) (fun S h=>zji S h)
theorem zjj(Z4:List ze×Int→Option Bool)(hs:zn Tryz.prog (Q3 Z4)):zn Tryz.prog (Q3 (zbt Z4)):=
 okC (A:=⟨[zbo qB,Q3 Z4],[],[],0,[(2,⟨[5],⟨[.int .i64],[]⟩,[0,1],[],[],0,[],⟨[],[]⟩,[]⟩)],[],[]⟩) (exS:=⟨[.bool],[]⟩) Tryz.f66 (memC zcx (memC hs zQ)) (by kernel_rfl) (by kernel_rfl) fun x=>by kernel_rfl
theorem zi2:zn Tryz.prog (Q3 Z4):=
 zn.recE (I:=I) (P:=Tryz.prog) (f:=66) (inS:=⟨[.sl 49, .int .u8],[]⟩) (cst:=[]) (outS:=⟨[.bool],[]⟩) (k:=0) (zbt) (by kernel_rfl) (fun S h=>zjj S h)
theorem zj1:zn Tryz.prog (zfU zcz):=
 okC (A:=⟨[zau qo,Q0 Z0,Q3 Z4],[],[],0,[],[],[]⟩) (exS:=⟨[.int .i64],[]⟩) Tryz.f27 (memC zgk (memC zi1 (memC zi2 zQ))) (by kernel_rfl) (by kernel_rfl) fun x=>by kernel_rfl
theorem zaA:zn Tryz.prog (Qg stringslite_HasPrefix):=
 okC (A:=⟨[],[],[],0,[],[],[]⟩) (exS:=⟨[.bool],[]⟩) Tryz.f130 zQ (by kernel_rfl) (by kernel_rfl) fun x=>by kernel_rfl
theorem ZU:zn Tryz.prog (ZB strings_HasPrefix):=
 okC (A:=⟨[Qg stringslite_HasPrefix],[],[],0,[],[],[]⟩) (exS:=⟨[.bool],[]⟩) Tryz.f93 (memC zaA zQ) (by kernel_rfl) (by kernel_rfl) fun x=>by kernel_rfl
theorem zc5:zn Tryz.prog (zaw Zh):=
 okC (A:=⟨[ZB strings_HasPrefix,zkW zhq],[],[],1,[(0,⟨[],⟨[],[(0, .row 133)]⟩,[0],[],[0],0,[],⟨[],[(0, .row 133)]⟩,[0]⟩)],[],[]⟩) (exS:=⟨[],[(0, .row 133)]⟩) Tryz.f100 (memC ZU (memC znb zQ)) (by kernel_rfl) (by kernel_rfl) fun x=>by kernel_rfl
theorem zu:zn Tryz.prog (zt zg):=
 okC (A:=⟨[],[],[],1,[],[],[]⟩) (exS:=⟨[.int .i64],[]⟩) Tryz.f137 zQ (by kernel_rfl) (by kernel_rfl) fun x=>by kernel_rfl
theorem zac:zn Tryz.prog (QM ZH):=
 okC (A:=⟨[],[],[],0,[],[],[]⟩) (exS:=⟨[.bool],[]⟩) Tryz.f138 zQ (by kernel_rfl) (by kernel_rfl) fun x=>by kernel_rfl
theorem Qw:zn Tryz.prog (qw zK):=
 okC (A:=⟨[zt zg,QM ZH],[],[],1,[(0,⟨[],⟨[],[(0, .row 133)]⟩,[0,1],[],[0],0,[],⟨[],[(0, .row 133)]⟩,[0]⟩)],[],[]⟩) (exS:=⟨[],[(0, .row 133)]⟩) Tryz.f139 (memC zu (memC zac zQ)) (by kernel_rfl) (by kernel_rfl) fun x=>by kernel_rfl
theorem zb6:zn Tryz.prog (Qz Zk):=
 okC (A:=⟨[],[(2,[1]),(4,[9]),(7,[14]),(9,[19])],[],0,[],[(7,⟨[25],⟨[.bool],[]⟩,[0,1,5],[],[],0,[],⟨[],[]⟩,[]⟩)],[]⟩) (exS:=⟨[.own 0],[(0, .sl 5)]⟩) Tryz.f237 zQ (by kernel_rfl) (by kernel_rfl) fun x=>by kernel_rfl
theorem ze2:zn Tryz.prog (zcl Z7):=
 okC (A:=⟨[Qz Zk],[(2,[3])],[],0,[],[],[]⟩) (exS:=⟨[.own 0],[(0, .sl 5)]⟩) Tryz.f210 (memC zb6 zQ) (by kernel_rfl) (by kernel_rfl) fun x=>by kernel_rfl
theorem zaS:zn Tryz.prog (Q5 ZM):=
 okC (A:=⟨[],[],[],0,[],[],[]⟩) (exS:=⟨[.bool],[]⟩) Tryz.f212 zQ (by kernel_rfl) (by kernel_rfl) fun x=>by kernel_rfl
theorem zab:zn Tryz.prog (QL Zt):=
 okC (A:=⟨[Q5 ZM],[],[],0,[],[],[]⟩) (exS:=⟨[.bool],[]⟩) Tryz.f174 (memC zaS zQ) (by kernel_rfl) (by kernel_rfl) fun x=>by kernel_rfl
theorem zhu:zn Tryz.prog (zfp zaZ):=
 okC (A:=⟨[QL Zt,Q5 ZM],[],[],0,[],[],[]⟩) (exS:=⟨[.int .i64],[]⟩) Tryz.f211 (memC zab (memC zaS zQ)) (by kernel_rfl) (by kernel_rfl) fun x=>by kernel_rfl
theorem zcF:zn Tryz.prog (Q4 Zu):=
 okC (A:=⟨[zt zg,zcl Z7,zfp zaZ,QM ZH],[(7,[3])],[],1,[(10,⟨[6,36],⟨[.int .i64, .int .i64],[(0, .row 133)]⟩,[0,1,4],[],[0],0,[6],⟨[.int .i64],[(0, .row 133)]⟩,[0]⟩)],[(17,⟨[6],⟨[.int .i64],[(0, .row 133)]⟩,[1],[],[0],0,[],⟨[],[]⟩,[]⟩),(19,⟨[6],⟨[.int .i64],[]⟩,[],[0],[],0,[],⟨[],[]⟩,[]⟩)],[]⟩) (exS:=⟨[.own 1],[(0, .row 133),(1, .sl 5)]⟩) Tryz.f172 (memC zu (memC ze2 (memC zhu (memC zac zQ)))) (by kernel_rfl) (by kernel_rfl) fun x=>by kernel_rfl
theorem zb7:zn Tryz.prog (QA Zl):=
 okC (A:=⟨[],[(2,[1]),(4,[9]),(7,[14]),(9,[19])],[],1,[],[(7,⟨[25],⟨[.bool],[(0, .sl 5)]⟩,[0,1,5],[],[0],0,[],⟨[],[]⟩,[]⟩)],[]⟩) (exS:=⟨[.own 1],[(1, .sl 5)]⟩) Tryz.f237 zQ (by kernel_rfl) (by kernel_rfl) fun x=>by kernel_rfl
theorem ze3:zn Tryz.prog (zcm Z8):=
 okC (A:=⟨[QA Zl],[(2,[3])],[],1,[],[],[]⟩) (exS:=⟨[.own 1],[(1, .sl 5)]⟩) Tryz.f210 (memC zb7 zQ) (by kernel_rfl) (by kernel_rfl) fun x=>by kernel_rfl
theorem ql:zn Tryz.prog (ZI zD):=
 okC (A:=⟨[zt zg,zcm Z8,zfp zaZ,QM ZH],[(7,[3])],[],2,[(10,⟨[6,36],⟨[.int .i64, .int .i64],[(0, .row 133)]⟩,[0,1,4],[1],[0],0,[6],⟨[.int .i64],[(0, .row 133)]⟩,[0]⟩)],[(17,⟨[6],⟨[.int .i64],[(0, .row 133),(1, .sl 5)]⟩,[1],[],[0,1],0,[],⟨[],[]⟩,[]⟩),(19,⟨[6],⟨[.int .i64],[(1, .sl 5)]⟩,[],[0],[1],0,[],⟨[],[]⟩,[]⟩)],[]⟩) (exS:=⟨[.own 2],[(0, .row 133),(2, .sl 5)]⟩) Tryz.f172 (memC zu (memC ze3 (memC zhu (memC zac zQ)))) (by kernel_rfl) (by kernel_rfl) fun x=>by kernel_rfl
theorem zdQ:zn Tryz.prog (za5 ZW):=
 okC (A:=⟨[zt zg,ZI zD],[(5,[3])],[],1,[(4,⟨[4],⟨[.own 1104],[(0, .row 133),(1, .row 44),(1104, .sl 5)]⟩,[0,2,3],[],[0,1],0,[4],⟨[.own 1104],[(0, .row 133),(1, .row 44),(1104, .sl 5)]⟩,[0,1,1104]⟩)],[],[]⟩) (exS:=⟨[.optr 1],[(0, .row 133),(1, .row 44)]⟩) Tryz.f140 (memC zu (memC ql zQ)) (by kernel_rfl) (by kernel_rfl) fun x=>by kernel_rfl
theorem zfi:zn Tryz.prog (zdA QH):=
 okC (A:=⟨[Q5 ZM],[],[],0,[],[],[]⟩) (exS:=⟨[.bool],[]⟩) Tryz.f173 (memC zaS zQ) (by kernel_rfl) (by kernel_rfl) fun x=>by kernel_rfl
theorem zev:zn Tryz.prog (zcW QI):=
 okC (A:=⟨[zdA QH,QL Zt],[],[],0,[],[],[]⟩) (exS:=⟨[.bool],[]⟩) Tryz.f141 (memC zfi (memC zab zQ)) (by kernel_rfl) (by kernel_rfl) fun x=>by kernel_rfl
theorem Zr:zn Tryz.prog (Zf zy):=
 okC (A:=⟨[zt zg],[],[],1,[],[],[]⟩) (exS:=⟨[.bool],[]⟩) Tryz.f142 (memC zu zQ) (by kernel_rfl) (by kernel_rfl) fun x=>by kernel_rfl
theorem zbF:zn Tryz.prog (QU zV):=
 okC (A:=⟨[zt zg,zdA QH,Zf zy],[],[],1,[],[],[]⟩) (exS:=⟨[.bool],[]⟩) Tryz.f143 (memC zu (memC zfi (memC Zr zQ))) (by kernel_rfl) (by kernel_rfl) fun x=>by kernel_rfl
theorem QG:zn Tryz.prog (qL zO):=
 okC (A:=⟨[zt zg,zcW QI,Zf zy,ZI zD],[(5,[3])],[],1,[(2,⟨[3],⟨[.own 1105],[(0, .row 133),(1105, .sl 5)]⟩,[0],[],[0],0,[],⟨[],[]⟩,[]⟩)],[],[]⟩) (exS:=⟨[.str],[(0, .row 133)]⟩) Tryz.f144 (memC zu (memC zev (memC Zr (memC ql zQ)))) (by kernel_rfl) (by kernel_rfl) fun x=>by kernel_rfl
theorem zdP:zn Tryz.prog (za4 ZV):=
 okC (A:=⟨[zt zg,QL Zt],[],[],1,[],[(5,⟨[3],⟨[.int .i64],[]⟩,[0],[],[],0,[],⟨[],[]⟩,[]⟩),(7,⟨[3],⟨[.int .i64],[]⟩,[],[],[],0,[],⟨[],[]⟩,[]⟩)],[]⟩) (exS:=⟨[.bool],[]⟩) Tryz.f145 (memC zu (memC zab zQ)) (by kernel_rfl) (by kernel_rfl) fun x=>by kernel_rfl
theorem zdr:zn Tryz.prog (zaH Zb):=
 okC (A:=⟨[zt zg,QL Zt],[],[],1,[(0,⟨[],⟨[],[(0, .row 133)]⟩,[0,1],[],[0],0,[],⟨[],[(0, .row 133)]⟩,[0]⟩)],[],[]⟩) (exS:=⟨[],[(0, .row 133)]⟩) Tryz.f139 (memC zu (memC zab zQ)) (by kernel_rfl) (by kernel_rfl) fun x=>by kernel_rfl
theorem zdp:zn Tryz.prog (zaF ZK):=
 okC (A:=⟨[zt zg,zaH Zb,QL Zt],[],[],1,[],[(4,⟨[],⟨[],[(0, .row 133)]⟩,[0],[],[0],0,[],⟨[],[]⟩,[]⟩),(10,⟨[4],⟨[.bool],[(0, .row 133)]⟩,[],[],[0],0,[],⟨[],[]⟩,[]⟩),(15,⟨[4,5],⟨[.bool, .int .i64],[(0, .row 133)]⟩,[],[],[0],0,[],⟨[],[]⟩,[]⟩),(19,⟨[4],⟨[.bool],[(0, .row 133)]⟩,[],[],[0],0,[],⟨[],[]⟩,[]⟩)],[]⟩) (exS:=⟨[.bool],[(0, .row 133)]⟩) Tryz.f175 (memC zu (memC zdr (memC zab zQ))) (by kernel_rfl) (by kernel_rfl) fun x=>by kernel_rfl
theorem ze1:zn Tryz.prog (zck Qb):=
 okC (A:=⟨[zoT zjq,zib zdh,ztH cutF],[],[],0,[(8,⟨[6,31],⟨[.int .i64, .int .i64],[]⟩,[0,2,3,4,5,29,30],[0],[],0,[6],⟨[.int .i64],[]⟩,[]⟩),(22,⟨[12,81],⟨[.int .i64, .int .i64],[]⟩,[4,79,80],[0],[],2,[12],⟨[.int .i64],[]⟩,[]⟩),(26,⟨[4,12],⟨[.int .i64, .int .i64],[]⟩,[],[],[],4,[12],⟨[.int .i64],[]⟩,[]⟩)],[(14,⟨[0,4,6],⟨[.str, .int .i64, .int .i64],[]⟩,[3,5],[],[],0,[],⟨[],[]⟩,[]⟩),(15,⟨[0,4],⟨[.str, .int .i64],[]⟩,[3],[],[],0,[],⟨[],[]⟩,[]⟩),(20,⟨[0,4],⟨[.str, .int .i64],[]⟩,[],[],[],0,[],⟨[],[]⟩,[]⟩),(31,⟨[12],⟨[.int .i64],[]⟩,[],[],[],0,[],⟨[],[]⟩,[]⟩)],[]⟩) (exS:=⟨[.int .i64],[]⟩) Tryz.f176 (memC zrQ (memC zna (memC zun zQ))) (by kernel_rfl) (by kernel_rfl) fun x=>by kernel_rfl
theorem zdq:zn Tryz.prog (zaG ZL):=
 okC (A:=⟨[zaF ZK,zck Qb,QU zV,qL zO,zt zg],[],[],1,[],[(9,⟨[],⟨[],[(0, .row 133),(1, .row 44),(2, .row 44)]⟩,[2,5],[],[0,1,2],0,[],⟨[],[]⟩,[]⟩)],[]⟩) (exS:=⟨[.optr 1],[(0, .row 133),(1, .row 44)]⟩) Tryz.f146 (memC zdp (memC ze1 (memC zbF (memC QG (memC zu zQ))))) (by kernel_rfl) (by kernel_rfl) fun x=>by kernel_rfl
theorem zjV:zn Tryz.prog (zfQ zbd):=
 okC (A:=⟨[],[],[],0,[(3,⟨[10],⟨[.int .i64],[(0, .sl 5)]⟩,[2,3,8,9],[],[0],0,[],⟨[],[(0, .sl 5)]⟩,[0]⟩)],[(7,⟨[10],⟨[.int .i64],[(0, .sl 5)]⟩,[],[],[0],0,[],⟨[],[]⟩,[]⟩)],[]⟩) (exS:=⟨[.str],[]⟩) Tryz.f108 zQ (by kernel_rfl) (by kernel_rfl) fun x=>by kernel_rfl
theorem zfh:zn Tryz.prog (zdz zam):=
 okC (A:=⟨[zfQ zbd],[],[],0,[],[],[]⟩) (exS:=⟨[.bool],[]⟩) Tryz.f109 (memC zjV zQ) (by kernel_rfl) (by kernel_rfl) fun x=>by kernel_rfl
theorem zeZ:zn Tryz.prog (zci ZG):=
 okC (A:=⟨[zt zg,Zf zy,Q4 Zu],[],[],1,[(1,⟨[],⟨[],[(0, .row 133),(1, .row 44)]⟩,[0,2],[],[0,1],0,[],⟨[],[]⟩,[]⟩)],[],[]⟩) (exS:=⟨[.optr 1],[(0, .row 133),(1, .row 44)]⟩) Tryz.f216 (memC zu (memC Zr (memC zcF zQ))) (by kernel_rfl) (by kernel_rfl) fun x=>by kernel_rfl
theorem ze0:zn Tryz.prog (zcj Qa):=
 okC (A:=⟨[qw zK,zt zg,QM ZH,zci ZG,Q5 ZM,Zf zy,ZI zD],[(18,[3])],[],1,[(3,⟨[3],⟨[.own 1106],[(0, .row 133),(1, .row 44),(1106, .sl 5)]⟩,[0,2],[],[0,1],0,[],⟨[],[]⟩,[]⟩)],[(10,⟨[3,4],⟨[.own 1106, .int .i64],[(0, .row 133),(1, .row 44),(1106, .sl 5)]⟩,[],[],[0,1,1106],0,[],⟨[],[]⟩,[]⟩)],[]⟩) (exS:=⟨[.optr 1],[(0, .row 133),(1, .row 44)]⟩) Tryz.f177 (memC Qw (memC zu (memC zac (memC zeZ (memC zaS (memC Zr (memC ql zQ))))))) (by kernel_rfl) (by kernel_rfl) fun x=>by kernel_rfl
theorem zd0:zn Tryz.prog (zbB qb):=
 okC (A:=⟨[qL zO,zt zg,zdz zam,qw zK,zcj Qa],[],[],1,[],[(11,⟨[],⟨[],[(0, .row 133),(1, .row 44)]⟩,[2,3],[],[0,1],0,[],⟨[],[]⟩,[]⟩)],[]⟩) (exS:=⟨[.optr 1],[(0, .row 133),(1, .row 44)]⟩) Tryz.f147 (memC QG (memC zu (memC zfh (memC Qw (memC ze0 zQ))))) (by kernel_rfl) (by kernel_rfl) fun x=>by kernel_rfl
theorem QW:zn Tryz.prog (Qf strings_IndexByte):=
 okC (A:=⟨[zmi zfw],[],[],0,[],[],[]⟩) (exS:=⟨[.int .i64],[]⟩) Tryz.f119 (memC zqa zQ) (by kernel_rfl) (by kernel_rfl) fun x=>by kernel_rfl
theorem zew:zn Tryz.prog (zbQ qG):=
 okC (A:=⟨[zt zg,QM ZH,qw zK,za5 ZW,zcW QI,Zf zy,QU zV,qL zO,za4 ZV,zaG ZL,ZB strings_HasPrefix,zbB qb,Qf strings_IndexByte],[],[],1,[],[],[]⟩) (exS:=⟨[.optr 1],[(0, .row 133),(1, .row 44)]⟩) Tryz.f101 (memC zu (memC zac (memC Qw (memC zdQ (memC zev (memC Zr (memC zbF (memC QG (memC zdP (memC zdq (memC ZU (memC zd0 (memC QW zQ))))))))))))) (by kernel_rfl) (by kernel_rfl) fun x=>by kernel_rfl
theorem zfE:zn Tryz.prog (zcK Qr):=
 okC (A:=⟨[],[(1,[2])],[],2,[],[],[]⟩) (exS:=⟨[],[(0, .cells 22 [.own 2]),(2, .sl 44)]⟩) Tryz.f70 zQ (by kernel_rfl) (by kernel_rfl) fun x=>by kernel_rfl
theorem zi3:zn Tryz.prog (ze8 zbH):=
 okC (A:=⟨[zoS zik,zaw Zh,zbQ qG,zcK Qr],[],[],1,[(7,⟨[7],⟨[.int .i64],[(0, .cells 22 [.own 1107]),(1107, .sl 44),(1, .row 133)]⟩,[0,1,6],[],[0,1],0,[],⟨[],[(0, .cells 22 [.own 1107]),(1107, .sl 44),(1, .row 133)]⟩,[0,1,1107]⟩)],[],[]⟩) (exS:=⟨[.int .i64],[(0, .cells 22 [.own 1]),(1, .sl 44)]⟩) Tryz.f69 (memC zrP (memC zc5 (memC zew (memC zfE zQ)))) (by kernel_rfl) (by kernel_rfl) fun x=>by kernel_rfl
theorem zcy:zn Tryz.prog (zbp qE):=
 okC (A:=⟨[ze8 zbH],[],[],0,[],[],[]⟩) (exS:=⟨[.sl 44, .int .i64],[]⟩) Tryz.f33 (memC zi3 zQ) (by kernel_rfl) (by kernel_rfl) fun x=>by kernel_rfl
theorem zaa:zn Tryz.prog (QK Zq):=
 okC (A:=⟨[],[],[],0,[],[(7,⟨[6],⟨[.bool],[]⟩,[0],[],[],0,[],⟨[],[]⟩,[]⟩)],[]⟩) (exS:=⟨[.int .u8],[]⟩) Tryz.f61 zQ (by kernel_rfl) (by kernel_rfl) fun x=>by kernel_rfl
theorem zny(ZA:List ze×Int→Option zo)(hs:zn Tryz.prog (za7 ZA)):zn Tryz.prog (za7 (zbj ZA)):=
 okC (A:=⟨[QK Zq,za7 ZA],[],[],0,[(3,⟨[12],⟨[.int .i64],[(1, .row 101)]⟩,[1,4,5,10,11],[0],[1],0,[],⟨[],[(1, .row 101)]⟩,[1]⟩)],[(9,⟨[],⟨[],[(1, .row 101)]⟩,[7,8,12],[2],[1],0,[],⟨[],[]⟩,[]⟩),(12,⟨[12],⟨[.int .i64],[(1, .row 101)]⟩,[],[],[1],0,[],⟨[],[]⟩,[]⟩)],[]⟩) (exS:=⟨[.optr 0],[(0, .row 101)]⟩) Tryz.f65 (memC zaa (memC hs zQ)) (by kernel_rfl) (by kernel_rfl) fun x=>by kernel_rfl
theorem zhs:zn Tryz.prog (za7 ZA):=
 zn.recE (I:=I) (P:=Tryz.prog) (f:=65) (inS:=⟨[.sl 49, .int .u8],[]⟩) (cst:=[]) (outS:=⟨[.val 101],[]⟩) (k:=0) (zbj) (by kernel_rfl) (fun S h=>zny S h)
theorem zb5:zn Tryz.prog (zby Z5):=
 okC (A:=⟨[za7 ZA],[],[],0,[],[],[]⟩) (exS:=⟨[.int .i64],[]⟩) Tryz.f32 (memC zhs zQ) (by kernel_rfl) (by kernel_rfl) fun x=>by kernel_rfl
theorem zj3(Zm:List ze×List zf→Option (List zf))(hs:zn Tryz.prog (zaE Zm)):zn Tryz.prog (zaE (zaP Zm)):=
 okC (A:=⟨[QK Zq,zaE Zm],[(4,[3]),(7,[6])],[],1,[(2,⟨[0,10],⟨[.own 1108, .int .i64],[(1108, .sl 44)]⟩,[4,8,9],[],[],0,[0],⟨[.own 1108],[(1108, .sl 44)]⟩,[1108]⟩)],[(8,⟨[0,10],⟨[.own 1210, .int .i64],[(1210, .sl 44)]⟩,[],[],[],0,[],⟨[],[]⟩,[]⟩)],[]⟩) (exS:=⟨[.own 1],[(1, .sl 44)]⟩) Tryz.f63 (memC zaa (memC hs zQ)) (by kernel_rfl) (by kernel_rfl) fun x=>by kernel_rfl
theorem zj0:zn Tryz.prog (zaE Zm):=
 zn.recE (I:=I) (P:=Tryz.prog) (f:=63) (inS:=⟨[.own 0, .sl 49],[(0, .sl 44)]⟩) (cst:=[]) (outS:=⟨[.own 1],[(1, .sl 44)]⟩) (k:=1) (zaP) (by kernel_rfl) (fun S h=>zj3 S h)
theorem zjZ:zn Tryz.prog (zkX zbi):=
 okC (A:=⟨[QK Zq,zaE Zm],[(4,[3]),(7,[6])],[],0,[(2,⟨[0,10],⟨[.own 1212, .int .i64],[(1212, .sl 44)]⟩,[4,8,9],[],[],0,[0],⟨[.own 1212],[(1212, .sl 44)]⟩,[1212]⟩)],[(8,⟨[0,10],⟨[.own 1314, .int .i64],[(1314, .sl 44)]⟩,[],[],[],0,[],⟨[],[]⟩,[]⟩)],[]⟩) (exS:=⟨[.own 0],[(0, .sl 44)]⟩) Tryz.f63 (memC zaa (memC zj0 zQ)) (by kernel_rfl) (by kernel_rfl) fun x=>by kernel_rfl
theorem zi0:zn Tryz.prog (ze7 zbi):=zqP ipOK (by kernel_rfl) zjZ
theorem zc4:zn Tryz.prog (zav stringslite_TrimPrefix):=
 okC (A:=⟨[Qg stringslite_HasPrefix],[],[],0,[],[],[]⟩) (exS:=⟨[.str],[]⟩) Tryz.f197 (memC zaA zQ) (by kernel_rfl) (by kernel_rfl) fun x=>by kernel_rfl
theorem zeu:zn Tryz.prog (zbP strings_TrimPrefix):=
 okC (A:=⟨[zav stringslite_TrimPrefix],[],[],0,[],[],[]⟩) (exS:=⟨[.str],[]⟩) Tryz.f162 (memC zc4 zQ) (by kernel_rfl) (by kernel_rfl) fun x=>by kernel_rfl
theorem zb4:zn Tryz.prog (zbx qP):=
 okC (A:=⟨[],[],[],0,[],[],[]⟩) (exS:=⟨[.bool],[]⟩) Tryz.f155 zQ (by kernel_rfl) (by kernel_rfl) fun x=>by kernel_rfl
theorem zer:zn Tryz.prog (zcV QD):=
 okC (A:=⟨[zbP strings_TrimPrefix,zbx qP],[],[],0,[],[],[]⟩) (exS:=⟨[.bool],[]⟩) Tryz.f122 (memC zeu (memC zb4 zQ)) (by kernel_rfl) (by kernel_rfl) fun x=>by kernel_rfl
theorem zfg:zn Tryz.prog (zdy zal):=
 okC (A:=⟨[],[],[],0,[],[],[]⟩) (exS:=⟨[.bool],[]⟩) Tryz.f157 zQ (by kernel_rfl) (by kernel_rfl) fun x=>by kernel_rfl
theorem zgh:zn Tryz.prog (zd3 zbb):=
 okC (A:=⟨[zdy zal,zbx qP],[],[],0,[],[],[]⟩) (exS:=⟨[.bool],[]⟩) Tryz.f153 (memC zfg (memC zb4 zQ)) (by kernel_rfl) (by kernel_rfl) fun x=>by kernel_rfl
theorem zfD:zn Tryz.prog (zcJ strings_Contains):=
 okC (A:=⟨[zkW zhq],[],[],0,[],[],[]⟩) (exS:=⟨[.bool],[]⟩) Tryz.f154 (memC znb zQ) (by kernel_rfl) (by kernel_rfl) fun x=>by kernel_rfl
theorem zm9:zn Tryz.prog (zia zee):=
 okC (A:=⟨[Qf strings_IndexByte,zcV QD,ZB strings_HasPrefix,zd3 zbb,zcJ strings_Contains],[],[],0,[],[(8,⟨[3,4,5,6,7,25],⟨[.bool, .bool, .bool, .bool, .bool, .bool],[]⟩,[1,16],[],[],0,[],⟨[],[]⟩,[]⟩),(14,⟨[3,4,5,6,7,63],⟨[.bool, .bool, .bool, .bool, .bool, .bool],[]⟩,[],[],[],0,[],⟨[],[]⟩,[]⟩),(22,⟨[4,5,6,7,94],⟨[.bool, .bool, .bool, .bool, .bool],[]⟩,[3],[],[],0,[],⟨[],[]⟩,[]⟩),(24,⟨[3,4,5,6,7],⟨[.bool, .bool, .bool, .bool, .bool],[]⟩,[1],[0],[],0,[],⟨[],[]⟩,[]⟩)],[]⟩) (exS:=⟨[.bool],[]⟩) Tryz.f115 (memC QW (memC zer (memC ZU (memC zgh (memC zfD zQ))))) (by kernel_rfl) (by kernel_rfl) fun x=>by kernel_rfl
theorem ziZ:zn Tryz.prog (ze6 QE):=
 okC (A:=⟨[],[],[],1,[],[],[]⟩) (exS:=⟨[.bool],[]⟩) Tryz.f116 zQ (by kernel_rfl) (by kernel_rfl) fun x=>by kernel_rfl
theorem zgi:zn Tryz.prog (zd5 zbc):=
 okC (A:=⟨[ze6 QE,zdz zam],[],[],0,[],[(11,⟨[5],⟨[.int .i64],[]⟩,[3],[0],[],0,[],⟨[],[]⟩,[]⟩)],[]⟩) (exS:=⟨[.int .i64],[]⟩) Tryz.f80 (memC ziZ (memC zfh zQ)) (by kernel_rfl) (by kernel_rfl) fun x=>by kernel_rfl
theorem zlt:zn Tryz.prog (zhe zdc):=
 okC (A:=⟨[zia zee,zd5 zbc],[],[],0,[(4,⟨[10],⟨[.int .i64],[]⟩,[0,8,9],[],[],0,[],⟨[],[]⟩,[]⟩)],[],[]⟩) (exS:=⟨[.int .i64],[]⟩) Tryz.f79 (memC zm9 (memC zgi zQ)) (by kernel_rfl) (by kernel_rfl) fun x=>by kernel_rfl
theorem zlv:zn Tryz.prog (zhg QO):=
 okC (A:=⟨[ZB strings_HasPrefix],[],[],0,[],[],[]⟩) (exS:=⟨[.int .i64],[]⟩) Tryz.f118 (memC ZU zQ) (by kernel_rfl) (by kernel_rfl) fun x=>by kernel_rfl
theorem zdV:zn Tryz.prog (zch ZY):=
 okC (A:=⟨[zbx qP,zdy zal,zka zeI],[(2,[2]),(3,[1]),(5,[1])],[],1,[],[],[]⟩) (exS:=⟨[.own 1],[(1, .sl 5)]⟩) Tryz.f120 (memC zb4 (memC zfg (memC zos zQ))) (by kernel_rfl) (by kernel_rfl) fun x=>by kernel_rfl
theorem zjT:zn Tryz.prog (zfO qJ):=
 okC (A:=⟨[zd3 zbb,zbx qP,zch ZY],[(6,[2])],[],1,[(2,⟨[0,11],⟨[.own 1420, .int .i64],[(1420, .sl 5)]⟩,[1,2,6,10],[],[],0,[0],⟨[.own 1420],[(1420, .sl 5)]⟩,[1420]⟩)],[(8,⟨[0,11],⟨[.own 1522, .int .i64],[(1522, .sl 5)]⟩,[],[],[],0,[],⟨[],[]⟩,[]⟩)],[]⟩) (exS:=⟨[.own 1],[(1, .sl 5)]⟩) Tryz.f117 (memC zgh (memC zb4 (memC zdV zQ))) (by kernel_rfl) (by kernel_rfl) fun x=>by kernel_rfl
theorem zlw:zn Tryz.prog (zhh zde):=
 okC (A:=⟨[],[],[],0,[],[],[]⟩) (exS:=⟨[.optr 0],[(0, .row 149)]⟩) Tryz.f123 zQ (by kernel_rfl) (by kernel_rfl) fun x=>by kernel_rfl
theorem zhz:zn Tryz.prog (zd4 Qi):=
 okC (A:=⟨[zj9 zeH,zmh zgN,zoU zhv],[(2,[1]),(6,[1])],[],1,[],[(3,⟨[0,1],⟨[.own 2044, .int .i64],[(2044, .sl 5)]⟩,[2],[],[],0,[],⟨[],[]⟩,[]⟩),(9,⟨[0],⟨[.own 2147],[(2147, .sl 5)]⟩,[],[],[],0,[],⟨[],[]⟩,[]⟩)],[]⟩) (exS:=⟨[.own 1],[(1, .sl 5)]⟩) Tryz.f121 (memC zor (memC zp9 (memC zrR zQ))) (by kernel_rfl) (by kernel_rfl) fun x=>by kernel_rfl
theorem zjU:zn Tryz.prog (zfP zcp):=
 okC (A:=⟨[zhg QO,zfO qJ,Qf strings_IndexByte,zch ZY,zd4 Qi,zcV QD,ZB strings_HasPrefix,zhh zde],[(5,[7]),(7,[1]),(12,[1]),(14,[1]),(20,[2]),(22,[1]),(30,[2]),(32,[1]),(38,[4])],[],1,[(16,⟨[0,67],⟨[.own 1837, .int .i64],[(1837, .sl 5)]⟩,[3,4,65,66],[1,4],[],1,[0],⟨[.own 1837],[(1837, .sl 5)]⟩,[1837]⟩),(26,⟨[0,93],⟨[.own 1941, .int .i64],[(1941, .sl 5)]⟩,[3,4,91,92],[1,3],[],3,[0],⟨[.own 1941],[(1941, .sl 5)]⟩,[1941]⟩)],[(12,⟨[5],⟨[.int .i64],[(0, .sl 5)]⟩,[0,3],[1],[0],0,[],⟨[],[]⟩,[]⟩),(21,⟨[0,67],⟨[.own 1939, .int .i64],[(1939, .sl 5)]⟩,[],[],[],0,[],⟨[],[]⟩,[]⟩),(31,⟨[0,93],⟨[.own 2043, .int .i64],[(2043, .sl 5)]⟩,[],[],[],0,[],⟨[],[]⟩,[]⟩)],[]⟩) (exS:=⟨[.own 1],[(1, .sl 5)]⟩) Tryz.f81 (memC zlv (memC zjT (memC QW (memC zdV (memC zhz (memC zer (memC ZU (memC zlw zQ)))))))) (by kernel_rfl) (by kernel_rfl) fun x=>by kernel_rfl
theorem zet:zn Tryz.prog (zbO qD):=
 okC (A:=⟨[],[],[],0,[(4,⟨[13],⟨[.int .i64],[]⟩,[0,1,12],[],[],0,[],⟨[],[]⟩,[]⟩)],[],[]⟩) (exS:=⟨[.bool],[]⟩) Tryz.f82 zQ (by kernel_rfl) (by kernel_rfl) fun x=>by kernel_rfl
theorem zlu:zn Tryz.prog (zhf zdd):=
 okC (A:=⟨[zhe zdc,zd5 zbc,zfP zcp,zbp qE,zbO qD],[(24,[5])],[],0,[(7,⟨[5,6,7],⟨[.own 2254, .own 2255, .int .i64],[(2254, .sl 5),(2255, .sl 119)]⟩,[0],[],[],0,[5],⟨[.own 2254],[(2254, .sl 5)]⟩,[2254]⟩),(11,⟨[9,36],⟨[.own 1835, .int .i64],[(1835, .sl 5)]⟩,[5,6,7,8,34,35],[2254,2255],[],2,[9],⟨[.own 1835],[(1835, .sl 5)]⟩,[1835]⟩)],[(17,⟨[5,6,7,9],⟨[.own 2254, .own 2255, .int .i64, .own 2357],[(2254, .sl 5),(2255, .sl 119),(2357, .sl 5)]⟩,[8],[],[2254,2255],0,[],⟨[],[]⟩,[]⟩),(21,⟨[5,6,7],⟨[.own 2254, .own 2255, .int .i64],[(2254, .sl 5),(2255, .sl 119),(2358, .row 119)]⟩,[9,12],[2357],[2254,2255,2358],0,[],⟨[],[]⟩,[]⟩),(24,⟨[5,6,7],⟨[.own 2462, .own 2255, .int .i64],[(2255, .sl 119),(2462, .sl 5)]⟩,[],[2358],[2255],0,[],⟨[],[]⟩,[]⟩)],[]⟩) (exS:=⟨[.str, .int .i64],[]⟩) Tryz.f46 (memC zlt (memC zgi (memC zjU (memC zcy (memC zet zQ))))) (by kernel_rfl) (by kernel_rfl) fun x=>by kernel_rfl
theorem znc:zn Tryz.prog (zic zep):=
 okC (A:=⟨[zby Z5,ze7 zbi,zhf zdd],[],[],0,[],[],[]⟩) (exS:=⟨[.str, .int .i64],[]⟩) Tryz.f20 (memC zb5 (memC zi0 (memC zlu zQ))) (by kernel_rfl) (by kernel_rfl) fun x=>by kernel_rfl
theorem zlx:zn Tryz.prog (zhi zdn):=
 okC (A:=⟨[zby Z5,za7 ZA],[],[],0,[],[],[]⟩) (exS:=⟨[.int .i64, .int .i64],[]⟩) Tryz.f26 (memC zb5 (memC zhs zQ)) (by kernel_rfl) (by kernel_rfl) fun x=>by kernel_rfl
theorem zjX:zn Tryz.prog (zfS zcr):=
 okC (A:=⟨[zbp qE,zkY parseF,zic zep,zhi zdn],[],[],0,[],[],[]⟩) (exS:=⟨[.str, .int .i64, .bool],[]⟩) Tryz.f31 (memC zcy (memC zne (memC znc (memC zlx zQ)))) (by kernel_rfl) (by kernel_rfl) fun x=>by kernel_rfl
theorem zjW:zn Tryz.prog (zfR zao):=
 okC (A:=⟨[zfS zcr,zbp qE,zkY parseF],[],[],0,[],[],[]⟩) (exS:=⟨[.bool],[]⟩) Tryz.f24 (memC zjX (memC zcy (memC zne zQ))) (by kernel_rfl) (by kernel_rfl) fun x=>by kernel_rfl
theorem zes:zn Tryz.prog (zbN qC):=
 okC (A:=⟨[],[],[],0,[],[],[]⟩) (exS:=⟨[.own 0],[(0, .sl 49)]⟩) Tryz.f98 zQ (by kernel_rfl) (by kernel_rfl) fun x=>by kernel_rfl
theorem znz(qW:List ze→Option (List ze))(hs:zn Tryz.prog (za8 qW)):zn Tryz.prog (za8 (zdO qW)):=
 okC (A:=⟨[zbN qC,za8 qW],[],[],0,[(3,⟨[8],⟨[.int .i64],[(0, .sl 49)]⟩,[0,2,7],[],[0],0,[],⟨[],[(0, .sl 49)]⟩,[0]⟩)],[],[]⟩) (exS:=⟨[.sl 49],[]⟩) Tryz.f67 (memC zes (memC hs zQ)) (by kernel_rfl) (by kernel_rfl) fun x=>by kernel_rfl
theorem zht:zn Tryz.prog (za8 qW):=
 zn.recE (I:=I) (P:=Tryz.prog) (f:=67) (inS:=⟨[.sl 49],[]⟩) (cst:=[]) (outS:=⟨[.sl 49],[]⟩) (k:=0) (zdO) (by kernel_rfl) (fun S h=>znz S h)
theorem zly:zn Tryz.prog (zhj zcc):=
 okC (A:=⟨[zby Z5,za8 qW],[(12,[7]),(15,[5])],[],0,[(9,⟨[7,8,24],⟨[.own 2464, .int .i64, .int .i64],[(2464, .sl 23)]⟩,[0,1,4,5,22,23],[],[],0,[7,8],⟨[.own 2464, .int .i64],[(2464, .sl 23)]⟩,[2464]⟩)],[(14,⟨[7,8,24],⟨[.own 2566, .int .i64, .int .i64],[(2566, .sl 23)]⟩,[],[],[],0,[],⟨[],[]⟩,[]⟩)],[]⟩) (exS:=⟨[.sl 23, .int .i64],[]⟩) Tryz.f28 (memC zb5 (memC zht zQ)) (by kernel_rfl) (by kernel_rfl) fun x=>by kernel_rfl
theorem zlO(ZE:List ze×List ze→Option Bool)(hs:zn Tryz.prog (zbz ZE)):zn Tryz.prog (zbz (zcQ ZE)):=
 okC (A:=⟨[zbz ZE],[],[],0,[(4,⟨[5],⟨[.int .i64],[]⟩,[0,1],[],[],0,[],⟨[],[]⟩,[]⟩)],[],[]⟩) (exS:=⟨[.bool],[]⟩) Tryz.f22 (memC hs zQ) (by kernel_rfl) (by kernel_rfl) fun x=>by kernel_rfl
theorem zlz:zn Tryz.prog (zbz ZE):=
 zn.recE (I:=I) (P:=Tryz.prog) (f:=22) (inS:=⟨[.sl 49, .sl 49],[]⟩) (cst:=[]) (outS:=⟨[.bool],[]⟩) (k:=0) (zcQ) (by kernel_rfl) (fun S h=>zlO S h)
theorem zjY:zn Tryz.prog (zfT zbh):=
 okC (A:=⟨[],[],[],1,[],[],[]⟩) (exS:=⟨[.bool],[]⟩) Tryz.f68 zQ (by kernel_rfl) (by kernel_rfl) fun x=>by kernel_rfl
theorem znd:zn Tryz.prog (zid zdo):=
 okC (A:=⟨[zby Z5,zfT zbh,za8 qW],[],[],0,[(6,⟨[6],⟨[.int .i64],[]⟩,[1,2,3,5,7],[0],[],0,[6],⟨[.int .i64],[]⟩,[]⟩),(8,⟨[7],⟨[.int .i64],[]⟩,[1,2,3,5,6],[0],[],2,[7],⟨[.int .i64],[]⟩,[]⟩)],[],[]⟩) (exS:=⟨[.sl 49, .int .i64],[]⟩) Tryz.f29 (memC zb5 (memC zjY (memC zht zQ))) (by kernel_rfl) (by kernel_rfl) fun x=>by kernel_rfl
theorem zgj:zn Tryz.prog (zda zaJ):=
 okC (A:=⟨[zfV zcA,zfU zcz,zfR zao,zhj zcc,zbz ZE,zid zdo],[],[],0,[(8,⟨[7,8],⟨[.int .i64, .int .i64],[]⟩,[0,1,5],[],[],0,[7],⟨[.int .i64],[]⟩,[]⟩),(15,⟨[7,9],⟨[.int .i64, .int .i64],[]⟩,[],[],[],2,[7],⟨[.int .i64],[]⟩,[]⟩),(27,⟨[14],⟨[.int .i64],[]⟩,[0,10],[],[],4,[14],⟨[.int .i64],[]⟩,[]⟩),(32,⟨[15],⟨[.int .i64],[]⟩,[0,10],[],[],6,[],⟨[],[]⟩,[]⟩)],[(14,⟨[7],⟨[.int .i64],[]⟩,[8],[],[],0,[],⟨[],[]⟩,[]⟩)],[]⟩) (exS:=⟨[.bool],[]⟩) Tryz.f5 (memC zj2 (memC zj1 (memC zjW (memC zly (memC zlz (memC znd zQ)))))) (by kernel_rfl) (by kernel_rfl) fun x=>by kernel_rfl
end Go.Lv.VT
