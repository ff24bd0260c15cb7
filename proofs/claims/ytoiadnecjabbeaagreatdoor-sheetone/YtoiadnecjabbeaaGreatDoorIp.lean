/- What stands for the values of types. -/
import Derived.Test.YtoiadnecjabbeaaGreatDoorProg
import Derived.Test.YtoiadnecjabbeaaGreatDoorLf
import Derived.Test.YtoiadnecjabbeaaGreatDoorTy
import Derived.KernelRfl
set_option linter.unusedSimpArgs false
set_option linter.unusedVariables false
namespace Go.Lv.VT
set_option maxRecDepth 100000
open Go.Proofs
inductive TC where
 |bool|int_i32|int_i64|int_u32|int_u64|int_u8|sl_139|sl_2|sl_25|sl_27|sl_30|sl_34|sl_47|sl_5|sl_68|sl_70|sl_72|sl_80|sl_9|sl_98|st_VAnb|st_VArr2_i64|st_VComplex|st_VCompound|st_VCond|st_VDecl|st_VRule|st_VSheet|st_VSimple|st_VToken|st_VValue|st_Vanb_reader|st_Vcond_reader|st_Vnest_found|st_Vref08_base|st_Vruntime_boundsError|st_Vseltext_place|st_Vseltext_reader|st_Vsheet_found|st_Vsheet_parser|st_Vtoken_scanner|str|other
def Ct:TC->Type
 | .bool=>Bool| .int_i32=>Int| .int_i64=>Int| .int_u32=>Int| .int_u64=>Int| .int_u8=>UInt8| .sl_139=>List zF| .sl_2=>List Int| .sl_25=>List (List za)| .sl_27=>List Zh| .sl_30=>List zt| .sl_34=>List z8| .sl_47=>List (List Str)| .sl_5=>List UInt8| .sl_68=>List Zu| .sl_70=>List zk| .sl_72=>List za| .sl_80=>List zq| .sl_9=>List Str| .sl_98=>List zO| .st_VAnb=>VAnb| .st_VArr2_i64=>Zu| .st_VComplex=>zq| .st_VCompound=>zO| .st_VCond=>zt| .st_VDecl=>Zh| .st_VRule=>z8| .st_VSheet=>zbr| .st_VSimple=>zF| .st_VToken=>zk| .st_VValue=>za| .st_Vanb_reader=>zM| .st_Vcond_reader=>zh| .st_Vnest_found=>Zq| .st_Vref08_base=>Qp| .st_Vruntime_boundsError=>ZT| .st_Vseltext_place=>zf| .st_Vseltext_reader=>zm| .st_Vsheet_found=>zZ| .st_Vsheet_parser=>zx| .st_Vtoken_scanner=>zb| .str=>Str| .other=>Unit
def tab:List (Nat×TC):=[(2, .int_i64),(3, .int_i64),(4, .bool),(5, .int_u8),(6, .int_u8),(7, .st_Vruntime_boundsError),(9, .str),(11, .str),(21, .int_i32),(23, .sl_80),(24, .sl_27),(25, .sl_72),(27, .st_VDecl),(28, .sl_30),(30, .st_VCond),(31, .sl_47),(32, .sl_34),(34, .st_VRule),(35, .int_i64),(39, .st_VSheet),(47, .sl_9),(52, .st_Vsheet_parser),(60, .sl_70),(63, .sl_68),(68, .st_VArr2_i64),(70, .st_VToken),(72, .st_VValue),(74, .sl_5),(78, .sl_98),(80, .st_VComplex),(87, .sl_25),(96, .sl_139),(98, .st_VCompound),(105, .int_u32),(121, .st_Vtoken_scanner),(124, .st_Vsheet_found),(134, .st_VAnb),(136, .st_Vref08_base),(139, .st_VSimple),(171, .st_Vcond_reader),(197, .st_Vseltext_place),(200, .st_Vnest_found),(233, .int_u64),(281, .st_Vseltext_reader),(305, .sl_2),(316, .st_Vanb_reader)]
def tc(t:Nat):TC:=match lk tab t with|some c=>c|none=> .other
def Cn(t:Nat):Type:=Ct (tc t)
def dC:(c:TC)->Ct c
 | .bool=>(default:Bool)| .int_i32=>(default:Int)| .int_i64=>(default:Int)| .int_u32=>(default:Int)| .int_u64=>(default:Int)| .int_u8=>(default:UInt8)| .sl_139=>(default:List zF)| .sl_2=>(default:List Int)| .sl_25=>(default:List (List za))| .sl_27=>(default:List Zh)| .sl_30=>(default:List zt)| .sl_34=>(default:List z8)| .sl_47=>(default:List (List Str))| .sl_5=>(default:List UInt8)| .sl_68=>(default:List Zu)| .sl_70=>(default:List zk)| .sl_72=>(default:List za)| .sl_80=>(default:List zq)| .sl_9=>(default:List Str)| .sl_98=>(default:List zO)| .st_VAnb=>(default:VAnb)| .st_VArr2_i64=>(default:Zu)| .st_VComplex=>(default:zq)| .st_VCompound=>(default:zO)| .st_VCond=>(default:zt)| .st_VDecl=>(default:Zh)| .st_VRule=>(default:z8)| .st_VSheet=>(default:zbr)| .st_VSimple=>(default:zF)| .st_VToken=>(default:zk)| .st_VValue=>(default:za)| .st_Vanb_reader=>(default:zM)| .st_Vcond_reader=>(default:zh)| .st_Vnest_found=>(default:Zq)| .st_Vref08_base=>(default:Qp)| .st_Vruntime_boundsError=>(default:ZT)| .st_Vseltext_place=>(default:zf)| .st_Vseltext_reader=>(default:zm)| .st_Vsheet_found=>(default:zZ)| .st_Vsheet_parser=>(default:zx)| .st_Vtoken_scanner=>(default:zb)| .str=>(default:Str)| .other=>()
def size:TC->Nat
 | .st_VAnb=>2| .st_VArr2_i64=>2| .st_VComplex=>3| .st_VCompound=>2| .st_VCond=>7| .st_VDecl=>3| .st_VRule=>12| .st_VSimple=>9| .st_VToken=>5| .st_VValue=>6| .st_Vnest_found=>3| .st_Vref08_base=>8| .st_Vruntime_boundsError=>4| .st_Vseltext_place=>2| .st_Vseltext_reader=>2| .st_Vsheet_found=>3| .st_Vsheet_parser=>2| .st_Vtoken_scanner=>2|_=>1
def zCo(x:VAnb):List PV:=[.at (.int .i64 x.a), .at (.int .i64 x.b)]
def MQ(x:Zu):List PV:=[.at (.int .i64 x.e0), .at (.int .i64 x.e1)]
mutual
def zy:zq->List PV
 |⟨x_lead,x_parts,x_combs⟩=>[.at (.int .u8 x_lead), .sl (Fy x_parts), .sl (x_combs.map (fun y=>[.at (.int .u8 y.toNat)]))]
def Xx:List zq->List (List PV)
 |[]=>[]
 |v::r=>zy v::Xx r
def zX:zO->List PV
 |⟨x_tag,x_simples⟩=>[.str x_tag, .sl (Tx x_simples)]
def Fy:List zO->List (List PV)
 |[]=>[]
 |v::r=>zX v::Fy r
def zW:zF->List PV
 |⟨x_kind,x_name,x_op,x_value,x_fold,x_anb,x_of_,x_list⟩=>[.at (.int .u8 x_kind), .str x_name, .at (.int .u8 x_op), .str x_value, .at (.bool x_fold), .at (.int .i64 x_anb.a), .at (.int .i64 x_anb.b), .at (.bool x_of_), .sl (Xx x_list)]
def Tx:List zF->List (List PV)
 |[]=>[]
 |v::r=>zW v::Tx r
end
theorem Z6: ∀(l:List zq),Xx l=l.map zy
 |[]=>by rw[Xx];rfl
 |v::r=>by rw[Xx,Z6 r];rfl
theorem ZR: ∀(l:List zO),Fy l=l.map zX
 |[]=>by rw[Fy];rfl
 |v::r=>by rw[Fy,ZR r];rfl
theorem qf: ∀(l:List zF),Tx l=l.map zW
 |[]=>by rw[Tx];rfl
 |v::r=>by rw[Tx,qf r];rfl
def lH(x:zk):List PV:=[.at (.int .u8 x.kind), .str x.text, .at (.int .i64 x.num), .str x.unit, .at (.bool x.flag)]
mutual
def zg:za->List PV
 |⟨x_token,x_list⟩=>[.at (.int .u8 x_token.kind), .str x_token.text, .at (.int .i64 x_token.num), .str x_token.unit, .at (.bool x_token.flag), .sl (Fx x_list)]
def Fx:List za->List (List PV)
 |[]=>[]
 |v::r=>zg v::Fx r
end
theorem ED: ∀(l:List za),Fx l=l.map zg
 |[]=>by rw[Fx];rfl
 |v::r=>by rw[Fx,ED r];rfl
def ZC(x:Zh):List PV:=[.str x.name, .sl (x.value.map zg), .at (.bool x.important)]
mutual
def zu:zt->List PV
 |⟨x_kind,x_name,x_num,x_decl,x_list⟩=>[.at (.int .u8 x_kind), .str x_name, .at (.int .i64 x_num), .str x_decl.name, .sl (x_decl.value.map zg), .at (.bool x_decl.important), .sl (ww x_list)]
def ww:List zt->List (List PV)
 |[]=>[]
 |v::r=>zu v::ww r
end
theorem yC: ∀(l:List zt),ww l=l.map zu
 |[]=>by rw[ww];rfl
 |v::r=>by rw[ww,yC r];rfl
mutual
def zG:z8->List PV
 |⟨x_kind,x_selectors,x_decls,x_cond,x_names,x_rules⟩=>[.at (.int .u8 x_kind), .sl (x_selectors.map zy), .sl (x_decls.map ZC), .at (.int .u8 x_cond.kind), .str x_cond.name, .at (.int .i64 x_cond.num), .str x_cond.decl.name, .sl (x_cond.decl.value.map zg), .at (.bool x_cond.decl.important), .sl (x_cond.list.map zu), .sl (x_names.map (fun y=>[.sl (y.map (fun y=>[.str y]))])), .sl (uw x_rules)]
def uw:List z8->List (List PV)
 |[]=>[]
 |v::r=>zG v::uw r
end
theorem xC: ∀(l:List z8),uw l=l.map zG
 |[]=>by rw[uw];rfl
 |v::r=>by rw[uw,xC r];rfl
def iW(x:zbr):List PV:=[.sl (x.rules.map zG)]
def X9(x:zM):List PV:=[.sl (x.l.map lH)]
def r9(x:zh):List PV:=[.sl (x.v.map zg)]
def W9(x:Zq):List PV:=[.at (.int .i64 x.depth), .at (.int .i64 x.tokens), .at (.bool x.bad)]
def M8(x:Qp):List PV:=[.at (.int .u8 x.kind), .str x.name, .at (.int .u8 x.op), .str x.value, .at (.bool x.fold), .at (.int .i64 x.anb.a), .at (.int .i64 x.anb.b), .at (.bool x.of_)]
def ze8(x:ZT):List PV:=[.at (.int .i64 x.x), .at (.int .i64 x.y), .at (.bool x.signed), .at (.int .u8 x.code)]
def zjQ(x:zf):List PV:=[.at (.int .i64 x.deep), .at (.bool x.has)]
def ziS(x:zm):List PV:=[.sl (x.v.map zg), .at (.int .i64 x.at_)]
def p9(x:zZ):List PV:=[.at (.int .i64 x.rules), .at (.int .i64 x.depth), .at (.bool x.bad)]
def zkP(x:zx):List PV:=[.at (.int .i64 x.room), .at (.int .i64 x.constructs)]
def zjR(x:zb):List PV:=[.str x.s, .at (.int .i64 x.at_)]
theorem vQ(x_lead:Int)(x_parts:List zO)(x_combs:List UInt8):zy ⟨x_lead,x_parts,x_combs⟩=[.at (.int .u8 x_lead), .sl (x_parts.map zX), .sl (x_combs.map (fun y=>[.at (.int .u8 y.toNat)]))]:=by simp only[zy,Z6,ZR,qf]
theorem pQ(x_tag:Str)(x_simples:List zF):zX ⟨x_tag,x_simples⟩=[.str x_tag, .sl (x_simples.map zW)]:=by simp only[zX,Z6,ZR,qf]
theorem aQ(x_kind:Int)(x_name:Str)(x_op:Int)(x_value:Str)(x_fold:Bool)(x_anb:VAnb)(x_of_:Bool)(x_list:List zq):zW ⟨x_kind,x_name,x_op,x_value,x_fold,x_anb,x_of_,x_list⟩=[.at (.int .u8 x_kind), .str x_name, .at (.int .u8 x_op), .str x_value, .at (.bool x_fold), .at (.int .i64 x_anb.a), .at (.int .i64 x_anb.b), .at (.bool x_of_), .sl (x_list.map zy)]:=by simp only[zW,Z6,ZR,qf]
theorem KQ(x_token:zk)(x_list:List za):zg ⟨x_token,x_list⟩=[.at (.int .u8 x_token.kind), .str x_token.text, .at (.int .i64 x_token.num), .str x_token.unit, .at (.bool x_token.flag), .sl (x_list.map zg)]:=by simp only[zg,ED]
theorem gP(x_kind:Int)(x_name:Str)(x_num:Int)(x_decl:Zh)(x_list:List zt):zu ⟨x_kind,x_name,x_num,x_decl,x_list⟩=[.at (.int .u8 x_kind), .str x_name, .at (.int .i64 x_num), .str x_decl.name, .sl (x_decl.value.map zg), .at (.bool x_decl.important), .sl (x_list.map zu)]:=by simp only[zu,yC]
theorem eP(x_kind:Int)(x_selectors:List zq)(x_decls:List Zh)(x_cond:zt)(x_names:List (List Str))(x_rules:List z8):zG ⟨x_kind,x_selectors,x_decls,x_cond,x_names,x_rules⟩=[.at (.int .u8 x_kind), .sl (x_selectors.map zy), .sl (x_decls.map ZC), .at (.int .u8 x_cond.kind), .str x_cond.name, .at (.int .i64 x_cond.num), .str x_cond.decl.name, .sl (x_cond.decl.value.map zg), .at (.bool x_cond.decl.important), .sl (x_cond.list.map zu), .sl (x_names.map (fun y=>[.sl (y.map (fun y=>[.str y]))])), .sl (x_rules.map zG)]:=by simp only[zG,xC]
theorem zlW(x:zq):zy x=[.at (.int .u8 x.lead), .sl (x.parts.map zX), .sl (x.combs.map (fun y=>[.at (.int .u8 y.toNat)]))]:=by cases x;exact vQ ..
theorem zkN(x:zO):zX x=[.str x.tag, .sl (x.simples.map zW)]:=by cases x;exact pQ ..
theorem Y9(x:zF):zW x=[.at (.int .u8 x.kind), .str x.name, .at (.int .u8 x.op), .str x.value, .at (.bool x.fold), .at (.int .i64 x.anb.a), .at (.int .i64 x.anb.b), .at (.bool x.of_), .sl (x.list.map zy)]:=by cases x;exact aQ ..
theorem G8(x:za):zg x=[.at (.int .u8 x.token.kind), .str x.token.text, .at (.int .i64 x.token.num), .str x.token.unit, .at (.bool x.token.flag), .sl (x.list.map zg)]:=by cases x;exact KQ ..
theorem LQ(x:zt):zu x=[.at (.int .u8 x.kind), .str x.name, .at (.int .i64 x.num), .str x.decl.name, .sl (x.decl.value.map zg), .at (.bool x.decl.important), .sl (x.list.map zu)]:=by cases x;exact gP ..
theorem P5(x:z8):zG x=[.at (.int .u8 x.kind), .sl (x.selectors.map zy), .sl (x.decls.map ZC), .at (.int .u8 x.cond.kind), .str x.cond.name, .at (.int .i64 x.cond.num), .str x.cond.decl.name, .sl (x.cond.decl.value.map zg), .at (.bool x.cond.decl.important), .sl (x.cond.list.map zu), .sl (x.names.map (fun y=>[.sl (y.map (fun y=>[.str y]))])), .sl (x.rules.map zG)]:=by cases x;exact eP ..
def fC(n:Nat):(c:TC)->Ct c->List PV
 | .bool,(x:Bool)=>[.at (.bool x)]
 | .int_i32,(x:Int)=>[.at (.int .i32 x)]
 | .int_i64,(x:Int)=>[.at (.int .i64 x)]
 | .int_u32,(x:Int)=>[.at (.int .u32 x)]
 | .int_u64,(x:Int)=>[.at (.int .u64 x)]
 | .int_u8,(x:UInt8)=>[.at (.int .u8 x.toNat)]
 | .sl_139,(x:List zF)=>[.sl (x.map zW)]
 | .sl_2,(x:List Int)=>[.sl (x.map (fun y=>[.at (.int .i64 y)]))]
 | .sl_25,(x:List (List za))=>[.sl (x.map (fun y=>[.sl (y.map zg)]))]
 | .sl_27,(x:List Zh)=>[.sl (x.map ZC)]
 | .sl_30,(x:List zt)=>[.sl (x.map zu)]
 | .sl_34,(x:List z8)=>[.sl (x.map zG)]
 | .sl_47,(x:List (List Str))=>[.sl (x.map (fun y=>[.sl (y.map (fun y=>[.str y]))]))]
 | .sl_5,(x:List UInt8)=>[.sl (x.map (fun y=>[.at (.int .u8 y.toNat)]))]
 | .sl_68,(x:List Zu)=>[.sl (x.map MQ)]
 | .sl_70,(x:List zk)=>[.sl (x.map lH)]
 | .sl_72,(x:List za)=>[.sl (x.map zg)]
 | .sl_80,(x:List zq)=>[.sl (x.map zy)]
 | .sl_9,(x:List Str)=>[.sl (x.map (fun y=>[.str y]))]
 | .sl_98,(x:List zO)=>[.sl (x.map zX)]
 | .st_VAnb,(x:VAnb)=>zCo x
 | .st_VArr2_i64,(x:Zu)=>MQ x
 | .st_VComplex,(x:zq)=>zy x
 | .st_VCompound,(x:zO)=>zX x
 | .st_VCond,(x:zt)=>zu x
 | .st_VDecl,(x:Zh)=>ZC x
 | .st_VRule,(x:z8)=>zG x
 | .st_VSheet,(x:zbr)=>iW x
 | .st_VSimple,(x:zF)=>zW x
 | .st_VToken,(x:zk)=>lH x
 | .st_VValue,(x:za)=>zg x
 | .st_Vanb_reader,(x:zM)=>X9 x
 | .st_Vcond_reader,(x:zh)=>r9 x
 | .st_Vnest_found,(x:Zq)=>W9 x
 | .st_Vref08_base,(x:Qp)=>M8 x
 | .st_Vruntime_boundsError,(x:ZT)=>ze8 x
 | .st_Vseltext_place,(x:zf)=>zjQ x
 | .st_Vseltext_reader,(x:zm)=>ziS x
 | .st_Vsheet_found,(x:zZ)=>p9 x
 | .st_Vsheet_parser,(x:zx)=>zkP x
 | .st_Vtoken_scanner,(x:zb)=>zjR x
 | .str,(x:Str)=>[.str x]
 | .other,_=>List.replicate n (.at (.slice none 0 0))
def eC(n:Nat):(c:TC)->Ct c->List (EV Cn)
 | .bool,(x:Bool)=>[.bool x]
 | .int_i32,(x:Int)=>[.int .i32 x]
 | .int_i64,(x:Int)=>[.int .i64 x]
 | .int_u32,(x:Int)=>[.int .u32 x]
 | .int_u64,(x:Int)=>[.int .u64 x]
 | .int_u8,(x:UInt8)=>[.int .u8 (x.toNat:Int)]
 | .sl_139,(x:List zF)=>[.sl 139 x]
 | .sl_2,(x:List Int)=>[.sl 2 x]
 | .sl_25,(x:List (List za))=>[.sl 25 x]
 | .sl_27,(x:List Zh)=>[.sl 27 x]
 | .sl_30,(x:List zt)=>[.sl 30 x]
 | .sl_34,(x:List z8)=>[.sl 34 x]
 | .sl_47,(x:List (List Str))=>[.sl 47 x]
 | .sl_5,(x:List UInt8)=>[.sl 5 x]
 | .sl_68,(x:List Zu)=>[.sl 68 x]
 | .sl_70,(x:List zk)=>[.sl 70 x]
 | .sl_72,(x:List za)=>[.sl 72 x]
 | .sl_80,(x:List zq)=>[.sl 80 x]
 | .sl_9,(x:List Str)=>[.sl 9 x]
 | .sl_98,(x:List zO)=>[.sl 98 x]
 | .st_VAnb,(x:VAnb)=>[.int .i64 x.a, .int .i64 x.b]
 | .st_VArr2_i64,(x:Zu)=>[.int .i64 x.e0, .int .i64 x.e1]
 | .st_VComplex,(x:zq)=>[.int .u8 x.lead, .sl 98 x.parts, .sl 5 x.combs]
 | .st_VCompound,(x:zO)=>[.str x.tag, .sl 139 x.simples]
 | .st_VCond,(x:zt)=>[.int .u8 x.kind, .str x.name, .int .i64 x.num, .str x.decl.name, .sl 72 x.decl.value, .bool x.decl.important, .sl 30 x.list]
 | .st_VDecl,(x:Zh)=>[.str x.name, .sl 72 x.value, .bool x.important]
 | .st_VRule,(x:z8)=>[.int .u8 x.kind, .sl 80 x.selectors, .sl 27 x.decls, .int .u8 x.cond.kind, .str x.cond.name, .int .i64 x.cond.num, .str x.cond.decl.name, .sl 72 x.cond.decl.value, .bool x.cond.decl.important, .sl 30 x.cond.list, .sl 47 x.names, .sl 34 x.rules]
 | .st_VSheet,(x:zbr)=>[.sl 34 x.rules]
 | .st_VSimple,(x:zF)=>[.int .u8 x.kind, .str x.name, .int .u8 x.op, .str x.value, .bool x.fold, .int .i64 x.anb.a, .int .i64 x.anb.b, .bool x.of_, .sl 80 x.list]
 | .st_VToken,(x:zk)=>[.int .u8 x.kind, .str x.text, .int .i64 x.num, .str x.unit, .bool x.flag]
 | .st_VValue,(x:za)=>[.int .u8 x.token.kind, .str x.token.text, .int .i64 x.token.num, .str x.token.unit, .bool x.token.flag, .sl 72 x.list]
 | .st_Vanb_reader,(x:zM)=>[.sl 70 x.l]
 | .st_Vcond_reader,(x:zh)=>[.sl 72 x.v]
 | .st_Vnest_found,(x:Zq)=>[.int .i64 x.depth, .int .i64 x.tokens, .bool x.bad]
 | .st_Vref08_base,(x:Qp)=>[.int .u8 x.kind, .str x.name, .int .u8 x.op, .str x.value, .bool x.fold, .int .i64 x.anb.a, .int .i64 x.anb.b, .bool x.of_]
 | .st_Vruntime_boundsError,(x:ZT)=>[.int .i64 x.x, .int .i64 x.y, .bool x.signed, .int .u8 x.code]
 | .st_Vseltext_place,(x:zf)=>[.int .i64 x.deep, .bool x.has]
 | .st_Vseltext_reader,(x:zm)=>[.sl 72 x.v, .int .i64 x.at_]
 | .st_Vsheet_found,(x:zZ)=>[.int .i64 x.rules, .int .i64 x.depth, .bool x.bad]
 | .st_Vsheet_parser,(x:zx)=>[.int .i64 x.room, .int .i64 x.constructs]
 | .st_Vtoken_scanner,(x:zb)=>[.str x.s, .int .i64 x.at_]
 | .str,(x:Str)=>[.str x]
 | .other,_=>List.replicate n .nil
def eG:EV Cn->Option Int
 | .int .i32 n=>some n
 |_=>none
def qc:EV Cn->Option Int
 | .int .i64 n=>some n
 |_=>none
def dG:EV Cn->Option Int
 | .int .u32 n=>some n
 |_=>none
def bG:EV Cn->Option Int
 | .int .u64 n=>some n
 |_=>none
def uh:EV Cn->Option Int
 | .int .u8 n=>some n
 |_=>none
def Fh:EV Cn->Option Bool
 | .bool b=>some b
 |_=>none
def dStr:EV Cn->Option Str
 | .str l=>some l
 |_=>none
def jJ:EV Cn->Option (List Int)
 | .nil=>some []
 | .sl 2 l=>some l
 |_=>none
def mD:EV Cn->Option (List UInt8)
 | .nil=>some []
 | .sl 5 l=>some l
 |_=>none
def iJ:EV Cn->Option (List Str)
 | .nil=>some []
 | .sl 9 l=>some l
 |_=>none
def mE:EV Cn->Option (List (List za))
 | .nil=>some []
 | .sl 25 l=>some l
 |_=>none
def wy:EV Cn->Option (List Zh)
 | .nil=>some []
 | .sl 27 l=>some l
 |_=>none
def pu:EV Cn->Option (List zt)
 | .nil=>some []
 | .sl 30 l=>some l
 |_=>none
def ou:EV Cn->Option (List z8)
 | .nil=>some []
 | .sl 34 l=>some l
 |_=>none
def uy:EV Cn->Option (List (List Str))
 | .nil=>some []
 | .sl 47 l=>some l
 |_=>none
def jE:EV Cn->Option (List Zu)
 | .nil=>some []
 | .sl 68 l=>some l
 |_=>none
def ry:EV Cn->Option (List zk)
 | .nil=>some []
 | .sl 70 l=>some l
 |_=>none
def nk:EV Cn->Option (List za)
 | .nil=>some []
 | .sl 72 l=>some l
 |_=>none
def nu:EV Cn->Option (List zq)
 | .nil=>some []
 | .sl 80 l=>some l
 |_=>none
def ny:EV Cn->Option (List zO)
 | .nil=>some []
 | .sl 98 l=>some l
 |_=>none
def rz:EV Cn->Option (List zF)
 | .nil=>some []
 | .sl 139 l=>some l
 |_=>none
def mC:(c:TC)->List (EV Cn)->Option (Ct c)
 | .bool=>fun cs=>match cs with|[a0]=>(Fh a0).bind fun x0=>some x0|_=>none
 | .int_i32=>fun cs=>match cs with|[a0]=>(eG a0).bind fun x0=>some x0|_=>none
 | .int_i64=>fun cs=>match cs with|[a0]=>(qc a0).bind fun x0=>some x0|_=>none
 | .int_u32=>fun cs=>match cs with|[a0]=>(dG a0).bind fun x0=>some x0|_=>none
 | .int_u64=>fun cs=>match cs with|[a0]=>(bG a0).bind fun x0=>some x0|_=>none
 | .int_u8=>fun cs=>match cs with|[a0]=>(uh a0).bind Ef|_=>none
 | .sl_139=>fun cs=>match cs with|[a0]=>(rz a0).bind fun x0=>some x0|_=>none
 | .sl_2=>fun cs=>match cs with|[a0]=>(jJ a0).bind fun x0=>some x0|_=>none
 | .sl_25=>fun cs=>match cs with|[a0]=>(mE a0).bind fun x0=>some x0|_=>none
 | .sl_27=>fun cs=>match cs with|[a0]=>(wy a0).bind fun x0=>some x0|_=>none
 | .sl_30=>fun cs=>match cs with|[a0]=>(pu a0).bind fun x0=>some x0|_=>none
 | .sl_34=>fun cs=>match cs with|[a0]=>(ou a0).bind fun x0=>some x0|_=>none
 | .sl_47=>fun cs=>match cs with|[a0]=>(uy a0).bind fun x0=>some x0|_=>none
 | .sl_5=>fun cs=>match cs with|[a0]=>(mD a0).bind fun x0=>some x0|_=>none
 | .sl_68=>fun cs=>match cs with|[a0]=>(jE a0).bind fun x0=>some x0|_=>none
 | .sl_70=>fun cs=>match cs with|[a0]=>(ry a0).bind fun x0=>some x0|_=>none
 | .sl_72=>fun cs=>match cs with|[a0]=>(nk a0).bind fun x0=>some x0|_=>none
 | .sl_80=>fun cs=>match cs with|[a0]=>(nu a0).bind fun x0=>some x0|_=>none
 | .sl_9=>fun cs=>match cs with|[a0]=>(iJ a0).bind fun x0=>some x0|_=>none
 | .sl_98=>fun cs=>match cs with|[a0]=>(ny a0).bind fun x0=>some x0|_=>none
 | .st_VAnb=>fun cs=>match cs with|[a0,a1]=>(qc a0).bind fun x0=>(qc a1).bind fun x1=>some (⟨x0,x1⟩:VAnb)|_=>none
 | .st_VArr2_i64=>fun cs=>match cs with|[a0,a1]=>(qc a0).bind fun x0=>(qc a1).bind fun x1=>some (⟨x0,x1⟩:Zu)|_=>none
 | .st_VComplex=>fun cs=>match cs with|[a0,a1,a2]=>(uh a0).bind fun x0=>(ny a1).bind fun x1=>(mD a2).bind fun x2=>some (⟨x0,x1,x2⟩:zq)|_=>none
 | .st_VCompound=>fun cs=>match cs with|[a0,a1]=>(dStr a0).bind fun x0=>(rz a1).bind fun x1=>some (⟨x0,x1⟩:zO)|_=>none
 | .st_VCond=>fun cs=>match cs with|[a0,a1,a2,a3,a4,a5,a6]=>(uh a0).bind fun x0=>(dStr a1).bind fun x1=>(qc a2).bind fun x2=>(dStr a3).bind fun x3=>(nk a4).bind fun x4=>(Fh a5).bind fun x5=>(pu a6).bind fun x6=>some (⟨x0,x1,x2,(⟨x3,x4,x5⟩:Zh),x6⟩:zt)|_=>none
 | .st_VDecl=>fun cs=>match cs with|[a0,a1,a2]=>(dStr a0).bind fun x0=>(nk a1).bind fun x1=>(Fh a2).bind fun x2=>some (⟨x0,x1,x2⟩:Zh)|_=>none
 | .st_VRule=>fun cs=>match cs with|[a0,a1,a2,a3,a4,a5,a6,a7,a8,a9,a10,a11]=>(uh a0).bind fun x0=>(nu a1).bind fun x1=>(wy a2).bind fun x2=>(uh a3).bind fun x3=>(dStr a4).bind fun x4=>(qc a5).bind fun x5=>(dStr a6).bind fun x6=>(nk a7).bind fun x7=>(Fh a8).bind fun x8=>(pu a9).bind fun x9=>(uy a10).bind fun x10=>(ou a11).bind fun x11=>some (⟨x0,x1,x2,(⟨x3,x4,x5,(⟨x6,x7,x8⟩:Zh),x9⟩:zt),x10,x11⟩:z8)|_=>none
 | .st_VSheet=>fun cs=>match cs with|[a0]=>(ou a0).bind fun x0=>some (⟨x0⟩:zbr)|_=>none
 | .st_VSimple=>fun cs=>match cs with|[a0,a1,a2,a3,a4,a5,a6,a7,a8]=>(uh a0).bind fun x0=>(dStr a1).bind fun x1=>(uh a2).bind fun x2=>(dStr a3).bind fun x3=>(Fh a4).bind fun x4=>(qc a5).bind fun x5=>(qc a6).bind fun x6=>(Fh a7).bind fun x7=>(nu a8).bind fun x8=>some (⟨x0,x1,x2,x3,x4,(⟨x5,x6⟩:VAnb),x7,x8⟩:zF)|_=>none
 | .st_VToken=>fun cs=>match cs with|[a0,a1,a2,a3,a4]=>(uh a0).bind fun x0=>(dStr a1).bind fun x1=>(qc a2).bind fun x2=>(dStr a3).bind fun x3=>(Fh a4).bind fun x4=>some (⟨x0,x1,x2,x3,x4⟩:zk)|_=>none
 | .st_VValue=>fun cs=>match cs with|[a0,a1,a2,a3,a4,a5]=>(uh a0).bind fun x0=>(dStr a1).bind fun x1=>(qc a2).bind fun x2=>(dStr a3).bind fun x3=>(Fh a4).bind fun x4=>(nk a5).bind fun x5=>some (⟨(⟨x0,x1,x2,x3,x4⟩:zk),x5⟩:za)|_=>none
 | .st_Vanb_reader=>fun cs=>match cs with|[a0]=>(ry a0).bind fun x0=>some (⟨x0⟩:zM)|_=>none
 | .st_Vcond_reader=>fun cs=>match cs with|[a0]=>(nk a0).bind fun x0=>some (⟨x0⟩:zh)|_=>none
 | .st_Vnest_found=>fun cs=>match cs with|[a0,a1,a2]=>(qc a0).bind fun x0=>(qc a1).bind fun x1=>(Fh a2).bind fun x2=>some (⟨x0,x1,x2⟩:Zq)|_=>none
 | .st_Vref08_base=>fun cs=>match cs with|[a0,a1,a2,a3,a4,a5,a6,a7]=>(uh a0).bind fun x0=>(dStr a1).bind fun x1=>(uh a2).bind fun x2=>(dStr a3).bind fun x3=>(Fh a4).bind fun x4=>(qc a5).bind fun x5=>(qc a6).bind fun x6=>(Fh a7).bind fun x7=>some (⟨x0,x1,x2,x3,x4,(⟨x5,x6⟩:VAnb),x7⟩:Qp)|_=>none
 | .st_Vruntime_boundsError=>fun cs=>match cs with|[a0,a1,a2,a3]=>(qc a0).bind fun x0=>(qc a1).bind fun x1=>(Fh a2).bind fun x2=>(uh a3).bind fun x3=>some (⟨x0,x1,x2,x3⟩:ZT)|_=>none
 | .st_Vseltext_place=>fun cs=>match cs with|[a0,a1]=>(qc a0).bind fun x0=>(Fh a1).bind fun x1=>some (⟨x0,x1⟩:zf)|_=>none
 | .st_Vseltext_reader=>fun cs=>match cs with|[a0,a1]=>(nk a0).bind fun x0=>(qc a1).bind fun x1=>some (⟨x0,x1⟩:zm)|_=>none
 | .st_Vsheet_found=>fun cs=>match cs with|[a0,a1,a2]=>(qc a0).bind fun x0=>(qc a1).bind fun x1=>(Fh a2).bind fun x2=>some (⟨x0,x1,x2⟩:zZ)|_=>none
 | .st_Vsheet_parser=>fun cs=>match cs with|[a0,a1]=>(qc a0).bind fun x0=>(qc a1).bind fun x1=>some (⟨x0,x1⟩:zx)|_=>none
 | .st_Vtoken_scanner=>fun cs=>match cs with|[a0,a1]=>(dStr a0).bind fun x0=>(qc a1).bind fun x1=>some (⟨x0,x1⟩:zb)|_=>none
 | .str=>fun cs=>match cs with|[a0]=>(dStr a0).bind fun x0=>some x0|_=>none
 | .other=>fun _=>none
def bC:(c:TC)->Option ((List UInt8->List (Ct c))×(List (Ct c)->List UInt8))
 | .int_u8=>some (fun l=>l,fun l=>l)
 |_=>none
noncomputable def I:Ip:=⟨Cn,fun t=>dC (tc t),fun t=>eC (Tryz.prog.cellsOf t) (tc t),fun t=>mC (tc t),fun t=>fC (Tryz.prog.cellsOf t) (tc t),fun t=>bC (tc t)⟩
theorem zHQ:(tab.all fun p=>Nat.beq (Tryz.prog.cellsOf p.1) (size p.2))=true:=by kernel_rfl
theorem zB5(t:Nat)(h:tc t≠ .other):Tryz.prog.cellsOf t=size (tc t):=by
 unfold tc at h ⊢;cases hl:lk tab t with
 |none=>rw[hl]at h;exact absurd rfl h
 |some c=> simp only;exact Na (Ec.1 zHQ _ (Tg hl))
def Dec(a:EV Cn)(p:PV):Prop:=Uj (I:=I) a=true/\WkP (pvE I a) p
theorem decs{cs:List (EV Cn)}{ps:List PV}(h:All2 Dec cs ps):(∀v∈cs,Uj (I:=I) v=true)/\cs.length=ps.length/\ ∀(j:Nat) (a b:PV),(cs.map (pvE I))[j]? =some a->ps[j]? =some b->WkP a b:=by
 induction h with
 |nil=>exact⟨fun v hv=>(by cases hv),rfl,fun j a b ha=>(by cases ha)⟩
 |cons h1 _ ih=>
  refine⟨fun v hv=> ?_,congrArg Nat.succ ih.2.1,fun j a b ha hb=> ?_⟩
  ·rcases ja.1 hv with rfl|hv
   ·exact h1.1
   ·exact ih.1 v hv
  ·cases j with
   |zero=>injection ha with ha;injection hb with hb;rw[<-ha,<-hb];exact h1.2
   |succ j=>exact ih.2.2 j a b ha hb
theorem WY{a:EV Cn}{x:Int}(h:eG a=some x):Dec a (.at (.int .i32 x)):=by
 unfold eG at h;split at h
 ·cases h;exact⟨rfl, .refl _⟩
 ·cases h
theorem Zx{a:EV Cn}{x:Int}(h:qc a=some x):Dec a (.at (.int .i64 x)):=by
 unfold qc at h;split at h
 ·cases h;exact⟨rfl, .refl _⟩
 ·cases h
theorem VY{a:EV Cn}{x:Int}(h:dG a=some x):Dec a (.at (.int .u32 x)):=by
 unfold dG at h;split at h
 ·cases h;exact⟨rfl, .refl _⟩
 ·cases h
theorem UY{a:EV Cn}{x:Int}(h:bG a=some x):Dec a (.at (.int .u64 x)):=by
 unfold bG at h;split at h
 ·cases h;exact⟨rfl, .refl _⟩
 ·cases h
theorem QD{a:EV Cn}{x:Int}(h:uh a=some x):Dec a (.at (.int .u8 x)):=by
 unfold uh at h;split at h
 ·cases h;exact⟨rfl, .refl _⟩
 ·cases h
theorem Ai{a:EV Cn}{x:Bool}(h:Fh a=some x):Dec a (.at (.bool x)):=by
 unfold Fh at h;split at h
 ·cases h;exact⟨rfl, .refl _⟩
 ·cases h
theorem Jh{a:EV Cn}{x:Str}(h:dStr a=some x):Dec a (.str x):=by
 unfold dStr at h;split at h
 ·cases h;exact⟨rfl, .refl _⟩
 ·cases h
theorem zCh{a:EV Cn}{x:List Int}(h:jJ a=some x):Dec a (.sl (x.map (I.full 2))):=by
 unfold jJ at h;split at h
 ·cases h;exact⟨rfl, .nil⟩
 ·cases h;exact⟨rfl, .refl _⟩
 ·cases h
theorem aL{a:EV Cn}{x:List UInt8}(h:mD a=some x):Dec a (.sl (x.map (I.full 5))):=by
 unfold mD at h;split at h
 ·cases h;exact⟨rfl, .nil⟩
 ·cases h;exact⟨rfl, .refl _⟩
 ·cases h
theorem zCj{a:EV Cn}{x:List Str}(h:iJ a=some x):Dec a (.sl (x.map (I.full 9))):=by
 unfold iJ at h;split at h
 ·cases h;exact⟨rfl, .nil⟩
 ·cases h;exact⟨rfl, .refl _⟩
 ·cases h
theorem PW{a:EV Cn}{x:List (List za)}(h:mE a=some x):Dec a (.sl (x.map (I.full 25))):=by
 unfold mE at h;split at h
 ·cases h;exact⟨rfl, .nil⟩
 ·cases h;exact⟨rfl, .refl _⟩
 ·cases h
theorem MN{a:EV Cn}{x:List Zh}(h:wy a=some x):Dec a (.sl (x.map (I.full 27))):=by
 unfold wy at h;split at h
 ·cases h;exact⟨rfl, .nil⟩
 ·cases h;exact⟨rfl, .refl _⟩
 ·cases h
theorem UH{a:EV Cn}{x:List zt}(h:pu a=some x):Dec a (.sl (x.map (I.full 30))):=by
 unfold pu at h;split at h
 ·cases h;exact⟨rfl, .nil⟩
 ·cases h;exact⟨rfl, .refl _⟩
 ·cases h
theorem TH{a:EV Cn}{x:List z8}(h:ou a=some x):Dec a (.sl (x.map (I.full 34))):=by
 unfold ou at h;split at h
 ·cases h;exact⟨rfl, .nil⟩
 ·cases h;exact⟨rfl, .refl _⟩
 ·cases h
theorem KN{a:EV Cn}{x:List (List Str)}(h:uy a=some x):Dec a (.sl (x.map (I.full 47))):=by
 unfold uy at h;split at h
 ·cases h;exact⟨rfl, .nil⟩
 ·cases h;exact⟨rfl, .refl _⟩
 ·cases h
theorem OW{a:EV Cn}{x:List Zu}(h:jE a=some x):Dec a (.sl (x.map (I.full 68))):=by
 unfold jE at h;split at h
 ·cases h;exact⟨rfl, .nil⟩
 ·cases h;exact⟨rfl, .refl _⟩
 ·cases h
theorem JN{a:EV Cn}{x:List zk}(h:ry a=some x):Dec a (.sl (x.map (I.full 70))):=by
 unfold ry at h;split at h
 ·cases h;exact⟨rfl, .nil⟩
 ·cases h;exact⟨rfl, .refl _⟩
 ·cases h
theorem wo{a:EV Cn}{x:List za}(h:nk a=some x):Dec a (.sl (x.map (I.full 72))):=by
 unfold nk at h;split at h
 ·cases h;exact⟨rfl, .nil⟩
 ·cases h;exact⟨rfl, .refl _⟩
 ·cases h
theorem SH{a:EV Cn}{x:List zq}(h:nu a=some x):Dec a (.sl (x.map (I.full 80))):=by
 unfold nu at h;split at h
 ·cases h;exact⟨rfl, .nil⟩
 ·cases h;exact⟨rfl, .refl _⟩
 ·cases h
theorem GN{a:EV Cn}{x:List zO}(h:ny a=some x):Dec a (.sl (x.map (I.full 98))):=by
 unfold ny at h;split at h
 ·cases h;exact⟨rfl, .nil⟩
 ·cases h;exact⟨rfl, .refl _⟩
 ·cases h
theorem nO{a:EV Cn}{x:List zF}(h:rz a=some x):Dec a (.sl (x.map (I.full 139))):=by
 unfold rz at h;split at h
 ·cases h;exact⟨rfl, .nil⟩
 ·cases h;exact⟨rfl, .refl _⟩
 ·cases h
theorem zFm(n:Nat): ∀(c:TC) (cs:List (EV Cn)) (x:Ct c),mC c cs=some x->All2 Dec cs (fC n c x)
 | .bool,cs,x,h=>by
  simp only[mC]at h;split at h
  ·obtain⟨x0,h0,h⟩:=Ba.1 h;injection h with h;subst h;exact .cons (Ai h0) .nil
  ·cases h
 | .int_i32,cs,x,h=>by
  simp only[mC]at h;split at h
  ·obtain⟨x0,h0,h⟩:=Ba.1 h;injection h with h;subst h;exact .cons (WY h0) .nil
  ·cases h
 | .int_i64,cs,x,h=>by
  simp only[mC]at h;split at h
  ·obtain⟨x0,h0,h⟩:=Ba.1 h;injection h with h;subst h;exact .cons (Zx h0) .nil
  ·cases h
 | .int_u32,cs,x,h=>by
  simp only[mC]at h;split at h
  ·obtain⟨x0,h0,h⟩:=Ba.1 h;injection h with h;subst h;exact .cons (VY h0) .nil
  ·cases h
 | .int_u64,cs,x,h=>by
  simp only[mC]at h;split at h
  ·obtain⟨x0,h0,h⟩:=Ba.1 h;injection h with h;subst h;exact .cons (UY h0) .nil
  ·cases h
 | .int_u8,cs,x,h=>by
  simp only[mC]at h;split at h
  ·obtain⟨x0,h0,h⟩:=Ba.1 h;have:=KW h;subst this;exact .cons (QD h0) .nil
  ·cases h
 | .sl_139,cs,x,h=>by
  simp only[mC]at h;split at h
  ·obtain⟨x0,h0,h⟩:=Ba.1 h;injection h with h;subst h;exact .cons (nO h0) .nil
  ·cases h
 | .sl_2,cs,x,h=>by
  simp only[mC]at h;split at h
  ·obtain⟨x0,h0,h⟩:=Ba.1 h;injection h with h;subst h;exact .cons (zCh h0) .nil
  ·cases h
 | .sl_25,cs,x,h=>by
  simp only[mC]at h;split at h
  ·obtain⟨x0,h0,h⟩:=Ba.1 h;injection h with h;subst h;exact .cons (PW h0) .nil
  ·cases h
 | .sl_27,cs,x,h=>by
  simp only[mC]at h;split at h
  ·obtain⟨x0,h0,h⟩:=Ba.1 h;injection h with h;subst h;exact .cons (MN h0) .nil
  ·cases h
 | .sl_30,cs,x,h=>by
  simp only[mC]at h;split at h
  ·obtain⟨x0,h0,h⟩:=Ba.1 h;injection h with h;subst h;exact .cons (UH h0) .nil
  ·cases h
 | .sl_34,cs,x,h=>by
  simp only[mC]at h;split at h
  ·obtain⟨x0,h0,h⟩:=Ba.1 h;injection h with h;subst h;exact .cons (TH h0) .nil
  ·cases h
 | .sl_47,cs,x,h=>by
  simp only[mC]at h;split at h
  ·obtain⟨x0,h0,h⟩:=Ba.1 h;injection h with h;subst h;exact .cons (KN h0) .nil
  ·cases h
 | .sl_5,cs,x,h=>by
  simp only[mC]at h;split at h
  ·obtain⟨x0,h0,h⟩:=Ba.1 h;injection h with h;subst h;exact .cons (aL h0) .nil
  ·cases h
 | .sl_68,cs,x,h=>by
  simp only[mC]at h;split at h
  ·obtain⟨x0,h0,h⟩:=Ba.1 h;injection h with h;subst h;exact .cons (OW h0) .nil
  ·cases h
 | .sl_70,cs,x,h=>by
  simp only[mC]at h;split at h
  ·obtain⟨x0,h0,h⟩:=Ba.1 h;injection h with h;subst h;exact .cons (JN h0) .nil
  ·cases h
 | .sl_72,cs,x,h=>by
  simp only[mC]at h;split at h
  ·obtain⟨x0,h0,h⟩:=Ba.1 h;injection h with h;subst h;exact .cons (wo h0) .nil
  ·cases h
 | .sl_80,cs,x,h=>by
  simp only[mC]at h;split at h
  ·obtain⟨x0,h0,h⟩:=Ba.1 h;injection h with h;subst h;exact .cons (SH h0) .nil
  ·cases h
 | .sl_9,cs,x,h=>by
  simp only[mC]at h;split at h
  ·obtain⟨x0,h0,h⟩:=Ba.1 h;injection h with h;subst h;exact .cons (zCj h0) .nil
  ·cases h
 | .sl_98,cs,x,h=>by
  simp only[mC]at h;split at h
  ·obtain⟨x0,h0,h⟩:=Ba.1 h;injection h with h;subst h;exact .cons (GN h0) .nil
  ·cases h
 | .st_VAnb,cs,x,h=>by
  simp only[mC]at h;split at h
  ·obtain⟨x0,h0,h⟩:=Ba.1 h;obtain⟨x1,h1,h⟩:=Ba.1 h;injection h with h;subst h;exact .cons (Zx h0) (.cons (Zx h1) .nil)
  ·cases h
 | .st_VArr2_i64,cs,x,h=>by
  simp only[mC]at h;split at h
  ·obtain⟨x0,h0,h⟩:=Ba.1 h;obtain⟨x1,h1,h⟩:=Ba.1 h;injection h with h;subst h;exact .cons (Zx h0) (.cons (Zx h1) .nil)
  ·cases h
 | .st_VComplex,cs,x,h=>by
  simp only[mC]at h;split at h
  ·obtain⟨x0,h0,h⟩:=Ba.1 h;obtain⟨x1,h1,h⟩:=Ba.1 h;obtain⟨x2,h2,h⟩:=Ba.1 h;injection h with h;subst h;show All2 Dec _ (zy _);simp only[zy,Z6,ZR,qf];exact .cons (QD h0) (.cons (GN h1) (.cons (aL h2) .nil))
  ·cases h
 | .st_VCompound,cs,x,h=>by
  simp only[mC]at h;split at h
  ·obtain⟨x0,h0,h⟩:=Ba.1 h;obtain⟨x1,h1,h⟩:=Ba.1 h;injection h with h;subst h;show All2 Dec _ (zX _);simp only[zX,Z6,ZR,qf];exact .cons (Jh h0) (.cons (nO h1) .nil)
  ·cases h
 | .st_VCond,cs,x,h=>by
  simp only[mC]at h;split at h
  ·obtain⟨x0,h0,h⟩:=Ba.1 h;obtain⟨x1,h1,h⟩:=Ba.1 h;obtain⟨x2,h2,h⟩:=Ba.1 h;obtain⟨x3,h3,h⟩:=Ba.1 h;obtain⟨x4,h4,h⟩:=Ba.1 h;obtain⟨x5,h5,h⟩:=Ba.1 h;obtain⟨x6,h6,h⟩:=Ba.1 h;injection h with h;subst h;show All2 Dec _ (zu _);simp only[zu,yC];exact .cons (QD h0) (.cons (Jh h1) (.cons (Zx h2) (.cons (Jh h3) (.cons (wo h4) (.cons (Ai h5) (.cons (UH h6) .nil))))))
  ·cases h
 | .st_VDecl,cs,x,h=>by
  simp only[mC]at h;split at h
  ·obtain⟨x0,h0,h⟩:=Ba.1 h;obtain⟨x1,h1,h⟩:=Ba.1 h;obtain⟨x2,h2,h⟩:=Ba.1 h;injection h with h;subst h;exact .cons (Jh h0) (.cons (wo h1) (.cons (Ai h2) .nil))
  ·cases h
 | .st_VRule,cs,x,h=>by
  simp only[mC]at h;split at h
  ·obtain⟨x0,h0,h⟩:=Ba.1 h;obtain⟨x1,h1,h⟩:=Ba.1 h;obtain⟨x2,h2,h⟩:=Ba.1 h;obtain⟨x3,h3,h⟩:=Ba.1 h;obtain⟨x4,h4,h⟩:=Ba.1 h;obtain⟨x5,h5,h⟩:=Ba.1 h;obtain⟨x6,h6,h⟩:=Ba.1 h;obtain⟨x7,h7,h⟩:=Ba.1 h;obtain⟨x8,h8,h⟩:=Ba.1 h;obtain⟨x9,h9,h⟩:=Ba.1 h;obtain⟨x10,h10,h⟩:=Ba.1 h;obtain⟨x11,h11,h⟩:=Ba.1 h;injection h with h;subst h;show All2 Dec _ (zG _);simp only[zG,xC];exact .cons (QD h0) (.cons (SH h1) (.cons (MN h2) (.cons (QD h3) (.cons (Jh h4) (.cons (Zx h5) (.cons (Jh h6) (.cons (wo h7) (.cons (Ai h8) (.cons (UH h9) (.cons (KN h10) (.cons (TH h11) .nil)))))))))))
  ·cases h
 | .st_VSheet,cs,x,h=>by
  simp only[mC]at h;split at h
  ·obtain⟨x0,h0,h⟩:=Ba.1 h;injection h with h;subst h;exact .cons (TH h0) .nil
  ·cases h
 | .st_VSimple,cs,x,h=>by
  simp only[mC]at h;split at h
  ·obtain⟨x0,h0,h⟩:=Ba.1 h;obtain⟨x1,h1,h⟩:=Ba.1 h;obtain⟨x2,h2,h⟩:=Ba.1 h;obtain⟨x3,h3,h⟩:=Ba.1 h;obtain⟨x4,h4,h⟩:=Ba.1 h;obtain⟨x5,h5,h⟩:=Ba.1 h;obtain⟨x6,h6,h⟩:=Ba.1 h;obtain⟨x7,h7,h⟩:=Ba.1 h;obtain⟨x8,h8,h⟩:=Ba.1 h;injection h with h;subst h;show All2 Dec _ (zW _);simp only[zW,Z6,ZR,qf];exact .cons (QD h0) (.cons (Jh h1) (.cons (QD h2) (.cons (Jh h3) (.cons (Ai h4) (.cons (Zx h5) (.cons (Zx h6) (.cons (Ai h7) (.cons (SH h8) .nil))))))))
  ·cases h
 | .st_VToken,cs,x,h=>by
  simp only[mC]at h;split at h
  ·obtain⟨x0,h0,h⟩:=Ba.1 h;obtain⟨x1,h1,h⟩:=Ba.1 h;obtain⟨x2,h2,h⟩:=Ba.1 h;obtain⟨x3,h3,h⟩:=Ba.1 h;obtain⟨x4,h4,h⟩:=Ba.1 h;injection h with h;subst h;exact .cons (QD h0) (.cons (Jh h1) (.cons (Zx h2) (.cons (Jh h3) (.cons (Ai h4) .nil))))
  ·cases h
 | .st_VValue,cs,x,h=>by
  simp only[mC]at h;split at h
  ·obtain⟨x0,h0,h⟩:=Ba.1 h;obtain⟨x1,h1,h⟩:=Ba.1 h;obtain⟨x2,h2,h⟩:=Ba.1 h;obtain⟨x3,h3,h⟩:=Ba.1 h;obtain⟨x4,h4,h⟩:=Ba.1 h;obtain⟨x5,h5,h⟩:=Ba.1 h;injection h with h;subst h;show All2 Dec _ (zg _);simp only[zg,ED];exact .cons (QD h0) (.cons (Jh h1) (.cons (Zx h2) (.cons (Jh h3) (.cons (Ai h4) (.cons (wo h5) .nil)))))
  ·cases h
 | .st_Vanb_reader,cs,x,h=>by
  simp only[mC]at h;split at h
  ·obtain⟨x0,h0,h⟩:=Ba.1 h;injection h with h;subst h;exact .cons (JN h0) .nil
  ·cases h
 | .st_Vcond_reader,cs,x,h=>by
  simp only[mC]at h;split at h
  ·obtain⟨x0,h0,h⟩:=Ba.1 h;injection h with h;subst h;exact .cons (wo h0) .nil
  ·cases h
 | .st_Vnest_found,cs,x,h=>by
  simp only[mC]at h;split at h
  ·obtain⟨x0,h0,h⟩:=Ba.1 h;obtain⟨x1,h1,h⟩:=Ba.1 h;obtain⟨x2,h2,h⟩:=Ba.1 h;injection h with h;subst h;exact .cons (Zx h0) (.cons (Zx h1) (.cons (Ai h2) .nil))
  ·cases h
 | .st_Vref08_base,cs,x,h=>by
  simp only[mC]at h;split at h
  ·obtain⟨x0,h0,h⟩:=Ba.1 h;obtain⟨x1,h1,h⟩:=Ba.1 h;obtain⟨x2,h2,h⟩:=Ba.1 h;obtain⟨x3,h3,h⟩:=Ba.1 h;obtain⟨x4,h4,h⟩:=Ba.1 h;obtain⟨x5,h5,h⟩:=Ba.1 h;obtain⟨x6,h6,h⟩:=Ba.1 h;obtain⟨x7,h7,h⟩:=Ba.1 h;injection h with h;subst h;exact .cons (QD h0) (.cons (Jh h1) (.cons (QD h2) (.cons (Jh h3) (.cons (Ai h4) (.cons (Zx h5) (.cons (Zx h6) (.cons (Ai h7) .nil)))))))
  ·cases h
 | .st_Vruntime_boundsError,cs,x,h=>by
  simp only[mC]at h;split at h
  ·obtain⟨x0,h0,h⟩:=Ba.1 h;obtain⟨x1,h1,h⟩:=Ba.1 h;obtain⟨x2,h2,h⟩:=Ba.1 h;obtain⟨x3,h3,h⟩:=Ba.1 h;injection h with h;subst h;exact .cons (Zx h0) (.cons (Zx h1) (.cons (Ai h2) (.cons (QD h3) .nil)))
  ·cases h
 | .st_Vseltext_place,cs,x,h=>by
  simp only[mC]at h;split at h
  ·obtain⟨x0,h0,h⟩:=Ba.1 h;obtain⟨x1,h1,h⟩:=Ba.1 h;injection h with h;subst h;exact .cons (Zx h0) (.cons (Ai h1) .nil)
  ·cases h
 | .st_Vseltext_reader,cs,x,h=>by
  simp only[mC]at h;split at h
  ·obtain⟨x0,h0,h⟩:=Ba.1 h;obtain⟨x1,h1,h⟩:=Ba.1 h;injection h with h;subst h;exact .cons (wo h0) (.cons (Zx h1) .nil)
  ·cases h
 | .st_Vsheet_found,cs,x,h=>by
  simp only[mC]at h;split at h
  ·obtain⟨x0,h0,h⟩:=Ba.1 h;obtain⟨x1,h1,h⟩:=Ba.1 h;obtain⟨x2,h2,h⟩:=Ba.1 h;injection h with h;subst h;exact .cons (Zx h0) (.cons (Zx h1) (.cons (Ai h2) .nil))
  ·cases h
 | .st_Vsheet_parser,cs,x,h=>by
  simp only[mC]at h;split at h
  ·obtain⟨x0,h0,h⟩:=Ba.1 h;obtain⟨x1,h1,h⟩:=Ba.1 h;injection h with h;subst h;exact .cons (Zx h0) (.cons (Zx h1) .nil)
  ·cases h
 | .st_Vtoken_scanner,cs,x,h=>by
  simp only[mC]at h;split at h
  ·obtain⟨x0,h0,h⟩:=Ba.1 h;obtain⟨x1,h1,h⟩:=Ba.1 h;injection h with h;subst h;exact .cons (Jh h0) (.cons (Zx h1) .nil)
  ·cases h
 | .str,cs,x,h=>by
  simp only[mC]at h;split at h
  ·obtain⟨x0,h0,h⟩:=Ba.1 h;injection h with h;subst h;exact .cons (Jh h0) .nil
  ·cases h
 | .other,cs,x,h=>by cases h
theorem fe(n:Nat): ∀(c:TC) (x:Ct c),fC n c x=(eC n c x).map (pvE I)
 | .bool,x=>rfl
 | .int_i32,x=>rfl
 | .int_i64,x=>rfl
 | .int_u32,x=>rfl
 | .int_u64,x=>rfl
 | .int_u8,x=>rfl
 | .sl_139,x=>rfl
 | .sl_2,x=>rfl
 | .sl_25,x=>rfl
 | .sl_27,x=>rfl
 | .sl_30,x=>rfl
 | .sl_34,x=>rfl
 | .sl_47,x=>rfl
 | .sl_5,x=>rfl
 | .sl_68,x=>rfl
 | .sl_70,x=>rfl
 | .sl_72,x=>rfl
 | .sl_80,x=>rfl
 | .sl_9,x=>rfl
 | .sl_98,x=>rfl
 | .st_VAnb,x=>rfl
 | .st_VArr2_i64,x=>rfl
 | .st_VComplex,(x:zq)=>by obtain⟨x_lead,x_parts,x_combs⟩:=x;show zy _=_;simp only[zy,Z6,ZR,qf];rfl
 | .st_VCompound,(x:zO)=>by obtain⟨x_tag,x_simples⟩:=x;show zX _=_;simp only[zX,Z6,ZR,qf];rfl
 | .st_VCond,(x:zt)=>by obtain⟨x_kind,x_name,x_num,x_decl,x_list⟩:=x;show zu _=_;simp only[zu,yC];rfl
 | .st_VDecl,x=>rfl
 | .st_VRule,(x:z8)=>by obtain⟨x_kind,x_selectors,x_decls,x_cond,x_names,x_rules⟩:=x;show zG _=_;simp only[zG,xC];rfl
 | .st_VSheet,x=>rfl
 | .st_VSimple,(x:zF)=>by obtain⟨x_kind,x_name,x_op,x_value,x_fold,x_anb,x_of_,x_list⟩:=x;show zW _=_;simp only[zW,Z6,ZR,qf];rfl
 | .st_VToken,x=>rfl
 | .st_VValue,(x:za)=>by obtain⟨x_token,x_list⟩:=x;show zg _=_;simp only[zg,ED];rfl
 | .st_Vanb_reader,x=>rfl
 | .st_Vcond_reader,x=>rfl
 | .st_Vnest_found,x=>rfl
 | .st_Vref08_base,x=>rfl
 | .st_Vruntime_boundsError,x=>rfl
 | .st_Vseltext_place,x=>rfl
 | .st_Vseltext_reader,x=>rfl
 | .st_Vsheet_found,x=>rfl
 | .st_Vsheet_parser,x=>rfl
 | .st_Vtoken_scanner,x=>rfl
 | .str,x=>rfl
 | .other,x=>by show List.replicate n (PV.at (Value.slice none 0 0))=(List.replicate n EV.nil).map (pvE I);rw[List.map_replicate];rfl
theorem zGH(n:Nat)(c:TC)(x:Ct c)(h:c≠ .other->n=size c):(eC n c x).length=n:=by
 cases c
 case other=>simp[eC]
 all_goals (rw[h (by simp)];rfl)
theorem zEK(n:Nat): ∀(c:TC) (x:Ct c),(eC n c x).all (Uj (I:=I))=true
 | .bool,x=>rfl
 | .int_i32,x=>rfl
 | .int_i64,x=>rfl
 | .int_u32,x=>rfl
 | .int_u64,x=>rfl
 | .int_u8,x=>rfl
 | .sl_139,x=>rfl
 | .sl_2,x=>rfl
 | .sl_25,x=>rfl
 | .sl_27,x=>rfl
 | .sl_30,x=>rfl
 | .sl_34,x=>rfl
 | .sl_47,x=>rfl
 | .sl_5,x=>rfl
 | .sl_68,x=>rfl
 | .sl_70,x=>rfl
 | .sl_72,x=>rfl
 | .sl_80,x=>rfl
 | .sl_9,x=>rfl
 | .sl_98,x=>rfl
 | .st_VAnb,x=>rfl
 | .st_VArr2_i64,x=>rfl
 | .st_VComplex,x=>rfl
 | .st_VCompound,x=>rfl
 | .st_VCond,x=>rfl
 | .st_VDecl,x=>rfl
 | .st_VRule,x=>rfl
 | .st_VSheet,x=>rfl
 | .st_VSimple,x=>rfl
 | .st_VToken,x=>rfl
 | .st_VValue,x=>rfl
 | .st_Vanb_reader,x=>rfl
 | .st_Vcond_reader,x=>rfl
 | .st_Vnest_found,x=>rfl
 | .st_Vref08_base,x=>rfl
 | .st_Vruntime_boundsError,x=>rfl
 | .st_Vseltext_place,x=>rfl
 | .st_Vseltext_reader,x=>rfl
 | .st_Vsheet_found,x=>rfl
 | .st_Vsheet_parser,x=>rfl
 | .st_Vtoken_scanner,x=>rfl
 | .str,x=>rfl
 | .other,x=>by show(List.replicate n EV.nil).all (Uj (I:=I))=true;rw[Ec];intro v hv;rw[(List.mem_replicate.1 hv).2];rfl
theorem zHR:(tab.all fun p=>match p.2 with| .int_u8=>(match kdOf Tryz.prog p.1 with| .int .u8=>true|_=>false)|_=>true)=true:=by kernel_rfl
theorem zIb(t:Nat)(h:tc t= .int_u8):kdOf Tryz.prog t= .int .u8:=by
 unfold tc at h;cases hl:lk tab t with
 |none=>rw[hl]at h;cases h
 |some c=>
  rw[hl]at h;have h:c= .int_u8:=h;subst h;have:=Ec.1 zHR _ (Tg hl);simp only at this;split at this
  ·assumption
  ·cases this
theorem zEu(n:Nat): ∀(c:TC) (p:(List UInt8->List (Ct c))×(List (Ct c)->List UInt8)),bC c=some p->(∀l,(p.1 l).map (fC n c)=l.map fun b=>[PV.at (.int .u8 b.toNat)])/\(∀l,l.map (fC n c)=(p.2 l).map fun b=>[PV.at (.int .u8 b.toNat)])/\c= .int_u8:=by
 intro c p h;cases c
 case int_u8=>cases h;exact⟨fun l=>rfl,fun l=>rfl,rfl⟩
 all_goals cases h
theorem zGA(t:Nat)(p:(List UInt8->List (I.C t))×(List (I.C t)->List UInt8))(h:I.byt t=some p):(∀l,(p.1 l).map (I.full t)=l.map fun b=>[PV.at (.int .u8 b.toNat)])/\(∀l,l.map (I.full t)=(p.2 l).map fun b=>[PV.at (.int .u8 b.toNat)])/\kdOf Tryz.prog t= .int .u8:=by obtain⟨h1,h2,h3⟩:=zEu (Tryz.prog.cellsOf t) (tc t) p h;exact⟨h1,h2,zIb t h3⟩
theorem ipOK:IpOK Tryz.prog I where
 len:=fun t x=>by show(fC _ _ x).length=_;exact(congrArg List.length (fe _ (tc t) x)).trans ((ma ..).trans (zGH _ (tc t) x (zB5 t)))
 exp:=fun t x=>fe _ _ x
 pur:=fun t x v hv=>Ec.1 (zEK _ _ x) v hv
 made:=fun t cs x h=>decs (zFm _ _ cs x h)
 byt:=zGA
noncomputable def T:TT:=[(2,ti Tryz.prog 2),(3,ti Tryz.prog 3),(4,ti Tryz.prog 4),(5,ti Tryz.prog 5),(6,ti Tryz.prog 6),(7,ti Tryz.prog 7),(9,ti Tryz.prog 9),(11,ti Tryz.prog 11),(21,ti Tryz.prog 21),(23,ti Tryz.prog 23),(24,ti Tryz.prog 24),(25,ti Tryz.prog 25),(27,ti Tryz.prog 27),(28,ti Tryz.prog 28),(30,ti Tryz.prog 30),(31,ti Tryz.prog 31),(32,ti Tryz.prog 32),(34,ti Tryz.prog 34),(35,ti Tryz.prog 35),(39,ti Tryz.prog 39),(47,ti Tryz.prog 47),(48,ti Tryz.prog 48),(52,ti Tryz.prog 52),(60,ti Tryz.prog 60),(63,ti Tryz.prog 63),(68,ti Tryz.prog 68),(70,ti Tryz.prog 70),(72,ti Tryz.prog 72),(74,ti Tryz.prog 74),(78,ti Tryz.prog 78),(80,ti Tryz.prog 80),(87,ti Tryz.prog 87),(93,ti Tryz.prog 93),(96,ti Tryz.prog 96),(98,ti Tryz.prog 98),(105,ti Tryz.prog 105),(119,ti Tryz.prog 119),(121,ti Tryz.prog 121),(124,ti Tryz.prog 124),(134,ti Tryz.prog 134),(136,ti Tryz.prog 136),(139,ti Tryz.prog 139),(169,ti Tryz.prog 169),(171,ti Tryz.prog 171),(197,ti Tryz.prog 197),(200,ti Tryz.prog 200),(209,ti Tryz.prog 209),(218,ti Tryz.prog 218),(233,ti Tryz.prog 233),(279,ti Tryz.prog 279),(281,ti Tryz.prog 281),(305,ti Tryz.prog 305),(314,ti Tryz.prog 314),(316,ti Tryz.prog 316),(327,ti Tryz.prog 327)]
def FK:List (Nat×List Kd):=[(70,[.int .u8, .str, .int .i64, .str, .bool]),(134,[.int .i64, .int .i64]),(136,[.int .u8, .str, .int .u8, .str, .bool, .int .i64, .int .i64, .bool])]
theorem tok:TOK Tryz.prog T FK:=pJ (l:=[2,3,4,5,6,7,9,11,21,23,24,25,27,28,30,31,32,34,35,39,47,48,52,60,63,68,70,72,74,78,80,87,93,96,98,105,119,121,124,134,136,139,169,171,197,200,209,218,233,279,281,305,314,316,327]) (by
 intro p hp;simp only[FK,ja,Jd,Ff]at hp;rcases hp with rfl|rfl|rfl<;>kernel_rfl)
theorem mixed:Tryz.prog.follows .mixedOrders=true:=by kernel_rfl
noncomputable def body(f:Go.Func):Code:=match f.body with|some c=>c|none=> .skip
noncomputable def rsl(f:Go.Func):List ResultVar:=f.results.toList
end Go.Lv.VT
