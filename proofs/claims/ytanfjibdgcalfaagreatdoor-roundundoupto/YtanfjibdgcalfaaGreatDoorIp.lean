/- What stands for the values of types. -/
import Derived.Test.YtanfjibdgcalfaaGreatDoorProg
import Derived.Test.YtanfjibdgcalfaaGreatDoorLf
import Derived.Test.YtanfjibdgcalfaaGreatDoorTy
import Derived.KernelRfl
set_option linter.unusedSimpArgs false
set_option linter.unusedVariables false
namespace Go.Lv.VT
set_option maxRecDepth 100000
open Go.Proofs
inductive TC where
 |bool|int_i32|int_i64|int_u32|int_u64|int_u8|sl_131|sl_135|sl_2|sl_31|sl_33|sl_332|sl_36|sl_39|sl_5|sl_59|sl_65|sl_68|sl_72|sl_9|st_VAnb|st_VArr12_str|st_VArr2_str|st_VArr5_str|st_VArr7_str|st_VComplex|st_VCompound|st_VCond|st_VDecl|st_VRule|st_VSheet|st_VSimple|st_VToken|st_VValue|st_Vcond_reader|st_Vglue_start|st_Vnest_found|st_Vref08_base|st_Vref08_place|st_Vruntime_boundsError|st_Vseltext_place|st_Vseltext_reader|st_Vsheet_found|st_Vsheet_parser|st_Vtoken_scanner|str|other
def Ct:TC->Type
 | .bool=>Bool| .int_i32=>Int| .int_i64=>Int| .int_u32=>Int| .int_u64=>Int| .int_u8=>UInt8| .sl_131=>List zk| .sl_135=>List ze| .sl_2=>List Int| .sl_31=>List (List ze)| .sl_33=>List Za| .sl_332=>List Zz| .sl_36=>List zm| .sl_39=>List zC| .sl_5=>List UInt8| .sl_59=>List (List Str)| .sl_65=>List zy| .sl_68=>List zg| .sl_72=>List zx| .sl_9=>List Str| .st_VAnb=>VAnb| .st_VArr12_str=>za7| .st_VArr2_str=>zgG| .st_VArr5_str=>zgH| .st_VArr7_str=>zgI| .st_VComplex=>zg| .st_VCompound=>zy| .st_VCond=>zm| .st_VDecl=>Za| .st_VRule=>zC| .st_VSheet=>ZN| .st_VSimple=>zx| .st_VToken=>zk| .st_VValue=>ze| .st_Vcond_reader=>zB| .st_Vglue_start=>Zz| .st_Vnest_found=>zU| .st_Vref08_base=>QB| .st_Vref08_place=>zX| .st_Vruntime_boundsError=>ZR| .st_Vseltext_place=>zh| .st_Vseltext_reader=>zw| .st_Vsheet_found=>zq| .st_Vsheet_parser=>zJ| .st_Vtoken_scanner=>zb| .str=>Str| .other=>Unit
def tab:List (Nat×TC):=[(2, .int_i64),(3, .int_i64),(4, .bool),(5, .int_u8),(6, .int_u8),(7, .st_Vruntime_boundsError),(9, .str),(11, .str),(21, .int_i32),(23, .sl_39),(25, .st_VSheet),(26, .int_i64),(29, .sl_68),(30, .sl_33),(31, .sl_135),(33, .st_VDecl),(34, .sl_36),(36, .st_VCond),(37, .sl_59),(39, .st_VRule),(42, .sl_5),(59, .sl_9),(63, .sl_72),(65, .st_VCompound),(66, .sl_65),(68, .st_VComplex),(70, .st_VAnb),(72, .st_VSimple),(77, .st_Vsheet_found),(80, .st_Vsheet_parser),(90, .sl_131),(131, .st_VToken),(133, .sl_31),(135, .st_VValue),(151, .st_Vseltext_place),(155, .st_Vnest_found),(192, .st_Vtoken_scanner),(212, .st_Vref08_base),(242, .st_Vcond_reader),(252, .st_Vref08_place),(259, .st_VArr5_str),(272, .int_u32),(306, .st_VArr7_str),(307, .st_VArr2_str),(316, .int_u64),(326, .sl_2),(330, .sl_332),(332, .st_Vglue_start),(335, .int_u64),(363, .st_Vseltext_reader),(372, .st_VArr12_str)]
def tc(t:Nat):TC:=match lk tab t with|some c=>c|none=> .other
def Cn(t:Nat):Type:=Ct (tc t)
def dC:(c:TC)->Ct c
 | .bool=>(default:Bool)| .int_i32=>(default:Int)| .int_i64=>(default:Int)| .int_u32=>(default:Int)| .int_u64=>(default:Int)| .int_u8=>(default:UInt8)| .sl_131=>(default:List zk)| .sl_135=>(default:List ze)| .sl_2=>(default:List Int)| .sl_31=>(default:List (List ze))| .sl_33=>(default:List Za)| .sl_332=>(default:List Zz)| .sl_36=>(default:List zm)| .sl_39=>(default:List zC)| .sl_5=>(default:List UInt8)| .sl_59=>(default:List (List Str))| .sl_65=>(default:List zy)| .sl_68=>(default:List zg)| .sl_72=>(default:List zx)| .sl_9=>(default:List Str)| .st_VAnb=>(default:VAnb)| .st_VArr12_str=>(default:za7)| .st_VArr2_str=>(default:zgG)| .st_VArr5_str=>(default:zgH)| .st_VArr7_str=>(default:zgI)| .st_VComplex=>(default:zg)| .st_VCompound=>(default:zy)| .st_VCond=>(default:zm)| .st_VDecl=>(default:Za)| .st_VRule=>(default:zC)| .st_VSheet=>(default:ZN)| .st_VSimple=>(default:zx)| .st_VToken=>(default:zk)| .st_VValue=>(default:ze)| .st_Vcond_reader=>(default:zB)| .st_Vglue_start=>(default:Zz)| .st_Vnest_found=>(default:zU)| .st_Vref08_base=>(default:QB)| .st_Vref08_place=>(default:zX)| .st_Vruntime_boundsError=>(default:ZR)| .st_Vseltext_place=>(default:zh)| .st_Vseltext_reader=>(default:zw)| .st_Vsheet_found=>(default:zq)| .st_Vsheet_parser=>(default:zJ)| .st_Vtoken_scanner=>(default:zb)| .str=>(default:Str)| .other=>()
def size:TC->Nat
 | .st_VAnb=>2| .st_VArr12_str=>12| .st_VArr2_str=>2| .st_VArr5_str=>5| .st_VArr7_str=>7| .st_VComplex=>3| .st_VCompound=>2| .st_VCond=>7| .st_VDecl=>3| .st_VRule=>12| .st_VSimple=>9| .st_VToken=>5| .st_VValue=>6| .st_Vglue_start=>2| .st_Vnest_found=>3| .st_Vref08_base=>8| .st_Vref08_place=>2| .st_Vruntime_boundsError=>4| .st_Vseltext_place=>2| .st_Vseltext_reader=>2| .st_Vsheet_found=>3| .st_Vsheet_parser=>2| .st_Vtoken_scanner=>2|_=>1
def zKI(x:VAnb):List PV:=[.at (.int .i64 x.a), .at (.int .i64 x.b)]
def CZ(x:za7):List PV:=[.str x.e0, .str x.e1, .str x.e2, .str x.e3, .str x.e4, .str x.e5, .str x.e6, .str x.e7, .str x.e8, .str x.e9, .str x.e10, .str x.e11]
def zAp(x:zgG):List PV:=[.str x.e0, .str x.e1]
def zAq(x:zgH):List PV:=[.str x.e0, .str x.e1, .str x.e2, .str x.e3, .str x.e4]
def zAr(x:zgI):List PV:=[.str x.e0, .str x.e1, .str x.e2, .str x.e3, .str x.e4, .str x.e5, .str x.e6]
mutual
def zo:zg->List PV
 |⟨x_lead,x_parts,x_combs⟩=>[.at (.int .u8 x_lead), .sl (Cv x_parts), .sl (x_combs.map (fun y=>[.at (.int .u8 y.toNat)]))]
def tu:List zg->List (List PV)
 |[]=>[]
 |v::r=>zo v::tu r
def zT:zy->List PV
 |⟨x_tag,x_simples⟩=>[.str x_tag, .sl (eu x_simples)]
def Cv:List zy->List (List PV)
 |[]=>[]
 |v::r=>zT v::Cv r
def Zd:zx->List PV
 |⟨x_kind,x_name,x_op,x_value,x_fold,x_anb,x_of_,x_list⟩=>[.at (.int .u8 x_kind), .str x_name, .at (.int .u8 x_op), .str x_value, .at (.bool x_fold), .at (.int .i64 x_anb.a), .at (.int .i64 x_anb.b), .at (.bool x_of_), .sl (tu x_list)]
def eu:List zx->List (List PV)
 |[]=>[]
 |v::r=>Zd v::eu r
end
theorem Z7: ∀(l:List zg),tu l=l.map zo
 |[]=>by rw[tu];rfl
 |v::r=>by rw[tu,Z7 r];rfl
theorem ZQ: ∀(l:List zy),Cv l=l.map zT
 |[]=>by rw[Cv];rfl
 |v::r=>by rw[Cv,ZQ r];rfl
theorem qf: ∀(l:List zx),eu l=l.map Zd
 |[]=>by rw[eu];rfl
 |v::r=>by rw[eu,qf r];rfl
def vL(x:zk):List PV:=[.at (.int .u8 x.kind), .str x.text, .at (.int .i64 x.num), .str x.unit, .at (.bool x.flag)]
mutual
def Zr:ze->List PV
 |⟨x_token,x_list⟩=>[.at (.int .u8 x_token.kind), .str x_token.text, .at (.int .i64 x_token.num), .str x_token.unit, .at (.bool x_token.flag), .sl (Ou x_list)]
def Ou:List ze->List (List PV)
 |[]=>[]
 |v::r=>Zr v::Ou r
end
theorem TB: ∀(l:List ze),Ou l=l.map Zr
 |[]=>by rw[Ou];rfl
 |v::r=>by rw[Ou,TB r];rfl
def ZC(x:Za):List PV:=[.str x.name, .sl (x.value.map Zr), .at (.bool x.important)]
mutual
def zH:zm->List PV
 |⟨x_kind,x_name,x_num,x_decl,x_list⟩=>[.at (.int .u8 x_kind), .str x_name, .at (.int .i64 x_num), .str x_decl.name, .sl (x_decl.value.map Zr), .at (.bool x_decl.important), .sl (Xt x_list)]
def Xt:List zm->List (List PV)
 |[]=>[]
 |v::r=>zH v::Xt r
end
theorem IB: ∀(l:List zm),Xt l=l.map zH
 |[]=>by rw[Xt];rfl
 |v::r=>by rw[Xt,IB r];rfl
mutual
def zD:zC->List PV
 |⟨x_kind,x_selectors,x_decls,x_cond,x_names,x_rules⟩=>[.at (.int .u8 x_kind), .sl (x_selectors.map zo), .sl (x_decls.map ZC), .at (.int .u8 x_cond.kind), .str x_cond.name, .at (.int .i64 x_cond.num), .str x_cond.decl.name, .sl (x_cond.decl.value.map Zr), .at (.bool x_cond.decl.important), .sl (x_cond.list.map zH), .sl (x_names.map (fun y=>[.sl (y.map (fun y=>[.str y]))])), .sl (Wt x_rules)]
def Wt:List zC->List (List PV)
 |[]=>[]
 |v::r=>zD v::Wt r
end
theorem FB: ∀(l:List zC),Wt l=l.map zD
 |[]=>by rw[Wt];rfl
 |v::r=>by rw[Wt,FB r];rfl
def gp(x:ZN):List PV:=[.sl (x.rules.map zD)]
def zsP(x:zB):List PV:=[.sl (x.v.map Zr)]
def wP(x:Zz):List PV:=[.at (.int .i64 x.token), .at (.int .i64 x.at_)]
def l8(x:zU):List PV:=[.at (.int .i64 x.depth), .at (.int .i64 x.tokens), .at (.bool x.bad)]
def Y8(x:QB):List PV:=[.at (.int .u8 x.kind), .str x.name, .at (.int .u8 x.op), .str x.value, .at (.bool x.fold), .at (.int .i64 x.anb.a), .at (.int .i64 x.anb.b), .at (.bool x.of_)]
def zsQ(x:zX):List PV:=[.at (.int .i64 x.deep), .at (.bool x.has)]
def zjo(x:ZR):List PV:=[.at (.int .i64 x.x), .at (.int .i64 x.y), .at (.bool x.signed), .at (.int .u8 x.code)]
def zpJ(x:zh):List PV:=[.at (.int .i64 x.deep), .at (.bool x.has)]
def zoS(x:zw):List PV:=[.sl (x.v.map Zr), .at (.int .i64 x.at_)]
def zsR(x:zq):List PV:=[.at (.int .i64 x.rules), .at (.int .i64 x.depth), .at (.bool x.bad)]
def zrj(x:zJ):List PV:=[.at (.int .i64 x.room), .at (.int .i64 x.constructs)]
def zpK(x:zb):List PV:=[.str x.s, .at (.int .i64 x.at_)]
theorem xP(x_lead:Int)(x_parts:List zy)(x_combs:List UInt8):zo ⟨x_lead,x_parts,x_combs⟩=[.at (.int .u8 x_lead), .sl (x_parts.map zT), .sl (x_combs.map (fun y=>[.at (.int .u8 y.toNat)]))]:=by simp only[zo,Z7,ZQ,qf]
theorem GQ(x_tag:Str)(x_simples:List zx):zT ⟨x_tag,x_simples⟩=[.str x_tag, .sl (x_simples.map Zd)]:=by simp only[zT,Z7,ZQ,qf]
theorem xO(x_kind:Int)(x_name:Str)(x_op:Int)(x_value:Str)(x_fold:Bool)(x_anb:VAnb)(x_of_:Bool)(x_list:List zg):Zd ⟨x_kind,x_name,x_op,x_value,x_fold,x_anb,x_of_,x_list⟩=[.at (.int .u8 x_kind), .str x_name, .at (.int .u8 x_op), .str x_value, .at (.bool x_fold), .at (.int .i64 x_anb.a), .at (.int .i64 x_anb.b), .at (.bool x_of_), .sl (x_list.map zo)]:=by simp only[Zd,Z7,ZQ,qf]
theorem CO(x_token:zk)(x_list:List ze):Zr ⟨x_token,x_list⟩=[.at (.int .u8 x_token.kind), .str x_token.text, .at (.int .i64 x_token.num), .str x_token.unit, .at (.bool x_token.flag), .sl (x_list.map Zr)]:=by simp only[Zr,TB]
theorem VN(x_kind:Int)(x_name:Str)(x_num:Int)(x_decl:Za)(x_list:List zm):zH ⟨x_kind,x_name,x_num,x_decl,x_list⟩=[.at (.int .u8 x_kind), .str x_name, .at (.int .i64 x_num), .str x_decl.name, .sl (x_decl.value.map Zr), .at (.bool x_decl.important), .sl (x_list.map zH)]:=by simp only[zH,IB]
theorem UN(x_kind:Int)(x_selectors:List zg)(x_decls:List Za)(x_cond:zm)(x_names:List (List Str))(x_rules:List zC):zD ⟨x_kind,x_selectors,x_decls,x_cond,x_names,x_rules⟩=[.at (.int .u8 x_kind), .sl (x_selectors.map zo), .sl (x_decls.map ZC), .at (.int .u8 x_cond.kind), .str x_cond.name, .at (.int .i64 x_cond.num), .str x_cond.decl.name, .sl (x_cond.decl.value.map Zr), .at (.bool x_cond.decl.important), .sl (x_cond.list.map zH), .sl (x_names.map (fun y=>[.sl (y.map (fun y=>[.str y]))])), .sl (x_rules.map zD)]:=by simp only[zD,FB]
theorem zsO(x:zg):zo x=[.at (.int .u8 x.lead), .sl (x.parts.map zT), .sl (x.combs.map (fun y=>[.at (.int .u8 y.toNat)]))]:=by cases x;exact xP ..
theorem zri(x:zy):zT x=[.str x.tag, .sl (x.simples.map Zd)]:=by cases x;exact GQ ..
theorem p8(x:zx):Zd x=[.at (.int .u8 x.kind), .str x.name, .at (.int .u8 x.op), .str x.value, .at (.bool x.fold), .at (.int .i64 x.anb.a), .at (.int .i64 x.anb.b), .at (.bool x.of_), .sl (x.list.map zo)]:=by cases x;exact xO ..
theorem BZ(x:ze):Zr x=[.at (.int .u8 x.token.kind), .str x.token.text, .at (.int .i64 x.token.num), .str x.token.unit, .at (.bool x.token.flag), .sl (x.list.map Zr)]:=by cases x;exact CO ..
theorem FO(x:zm):zH x=[.at (.int .u8 x.kind), .str x.name, .at (.int .i64 x.num), .str x.decl.name, .sl (x.decl.value.map Zr), .at (.bool x.decl.important), .sl (x.list.map zH)]:=by cases x;exact VN ..
theorem zAs(x:zC):zD x=[.at (.int .u8 x.kind), .sl (x.selectors.map zo), .sl (x.decls.map ZC), .at (.int .u8 x.cond.kind), .str x.cond.name, .at (.int .i64 x.cond.num), .str x.cond.decl.name, .sl (x.cond.decl.value.map Zr), .at (.bool x.cond.decl.important), .sl (x.cond.list.map zH), .sl (x.names.map (fun y=>[.sl (y.map (fun y=>[.str y]))])), .sl (x.rules.map zD)]:=by cases x;exact UN ..
def fC(n:Nat):(c:TC)->Ct c->List PV
 | .bool,(x:Bool)=>[.at (.bool x)]
 | .int_i32,(x:Int)=>[.at (.int .i32 x)]
 | .int_i64,(x:Int)=>[.at (.int .i64 x)]
 | .int_u32,(x:Int)=>[.at (.int .u32 x)]
 | .int_u64,(x:Int)=>[.at (.int .u64 x)]
 | .int_u8,(x:UInt8)=>[.at (.int .u8 x.toNat)]
 | .sl_131,(x:List zk)=>[.sl (x.map vL)]
 | .sl_135,(x:List ze)=>[.sl (x.map Zr)]
 | .sl_2,(x:List Int)=>[.sl (x.map (fun y=>[.at (.int .i64 y)]))]
 | .sl_31,(x:List (List ze))=>[.sl (x.map (fun y=>[.sl (y.map Zr)]))]
 | .sl_33,(x:List Za)=>[.sl (x.map ZC)]
 | .sl_332,(x:List Zz)=>[.sl (x.map wP)]
 | .sl_36,(x:List zm)=>[.sl (x.map zH)]
 | .sl_39,(x:List zC)=>[.sl (x.map zD)]
 | .sl_5,(x:List UInt8)=>[.sl (x.map (fun y=>[.at (.int .u8 y.toNat)]))]
 | .sl_59,(x:List (List Str))=>[.sl (x.map (fun y=>[.sl (y.map (fun y=>[.str y]))]))]
 | .sl_65,(x:List zy)=>[.sl (x.map zT)]
 | .sl_68,(x:List zg)=>[.sl (x.map zo)]
 | .sl_72,(x:List zx)=>[.sl (x.map Zd)]
 | .sl_9,(x:List Str)=>[.sl (x.map (fun y=>[.str y]))]
 | .st_VAnb,(x:VAnb)=>zKI x
 | .st_VArr12_str,(x:za7)=>CZ x
 | .st_VArr2_str,(x:zgG)=>zAp x
 | .st_VArr5_str,(x:zgH)=>zAq x
 | .st_VArr7_str,(x:zgI)=>zAr x
 | .st_VComplex,(x:zg)=>zo x
 | .st_VCompound,(x:zy)=>zT x
 | .st_VCond,(x:zm)=>zH x
 | .st_VDecl,(x:Za)=>ZC x
 | .st_VRule,(x:zC)=>zD x
 | .st_VSheet,(x:ZN)=>gp x
 | .st_VSimple,(x:zx)=>Zd x
 | .st_VToken,(x:zk)=>vL x
 | .st_VValue,(x:ze)=>Zr x
 | .st_Vcond_reader,(x:zB)=>zsP x
 | .st_Vglue_start,(x:Zz)=>wP x
 | .st_Vnest_found,(x:zU)=>l8 x
 | .st_Vref08_base,(x:QB)=>Y8 x
 | .st_Vref08_place,(x:zX)=>zsQ x
 | .st_Vruntime_boundsError,(x:ZR)=>zjo x
 | .st_Vseltext_place,(x:zh)=>zpJ x
 | .st_Vseltext_reader,(x:zw)=>zoS x
 | .st_Vsheet_found,(x:zq)=>zsR x
 | .st_Vsheet_parser,(x:zJ)=>zrj x
 | .st_Vtoken_scanner,(x:zb)=>zpK x
 | .str,(x:Str)=>[.str x]
 | .other,_=>List.replicate n (.at (.slice none 0 0))
def eC(n:Nat):(c:TC)->Ct c->List (EV Cn)
 | .bool,(x:Bool)=>[.bool x]
 | .int_i32,(x:Int)=>[.int .i32 x]
 | .int_i64,(x:Int)=>[.int .i64 x]
 | .int_u32,(x:Int)=>[.int .u32 x]
 | .int_u64,(x:Int)=>[.int .u64 x]
 | .int_u8,(x:UInt8)=>[.int .u8 (x.toNat:Int)]
 | .sl_131,(x:List zk)=>[.sl 131 x]
 | .sl_135,(x:List ze)=>[.sl 135 x]
 | .sl_2,(x:List Int)=>[.sl 2 x]
 | .sl_31,(x:List (List ze))=>[.sl 31 x]
 | .sl_33,(x:List Za)=>[.sl 33 x]
 | .sl_332,(x:List Zz)=>[.sl 332 x]
 | .sl_36,(x:List zm)=>[.sl 36 x]
 | .sl_39,(x:List zC)=>[.sl 39 x]
 | .sl_5,(x:List UInt8)=>[.sl 5 x]
 | .sl_59,(x:List (List Str))=>[.sl 59 x]
 | .sl_65,(x:List zy)=>[.sl 65 x]
 | .sl_68,(x:List zg)=>[.sl 68 x]
 | .sl_72,(x:List zx)=>[.sl 72 x]
 | .sl_9,(x:List Str)=>[.sl 9 x]
 | .st_VAnb,(x:VAnb)=>[.int .i64 x.a, .int .i64 x.b]
 | .st_VArr12_str,(x:za7)=>[.str x.e0, .str x.e1, .str x.e2, .str x.e3, .str x.e4, .str x.e5, .str x.e6, .str x.e7, .str x.e8, .str x.e9, .str x.e10, .str x.e11]
 | .st_VArr2_str,(x:zgG)=>[.str x.e0, .str x.e1]
 | .st_VArr5_str,(x:zgH)=>[.str x.e0, .str x.e1, .str x.e2, .str x.e3, .str x.e4]
 | .st_VArr7_str,(x:zgI)=>[.str x.e0, .str x.e1, .str x.e2, .str x.e3, .str x.e4, .str x.e5, .str x.e6]
 | .st_VComplex,(x:zg)=>[.int .u8 x.lead, .sl 65 x.parts, .sl 5 x.combs]
 | .st_VCompound,(x:zy)=>[.str x.tag, .sl 72 x.simples]
 | .st_VCond,(x:zm)=>[.int .u8 x.kind, .str x.name, .int .i64 x.num, .str x.decl.name, .sl 135 x.decl.value, .bool x.decl.important, .sl 36 x.list]
 | .st_VDecl,(x:Za)=>[.str x.name, .sl 135 x.value, .bool x.important]
 | .st_VRule,(x:zC)=>[.int .u8 x.kind, .sl 68 x.selectors, .sl 33 x.decls, .int .u8 x.cond.kind, .str x.cond.name, .int .i64 x.cond.num, .str x.cond.decl.name, .sl 135 x.cond.decl.value, .bool x.cond.decl.important, .sl 36 x.cond.list, .sl 59 x.names, .sl 39 x.rules]
 | .st_VSheet,(x:ZN)=>[.sl 39 x.rules]
 | .st_VSimple,(x:zx)=>[.int .u8 x.kind, .str x.name, .int .u8 x.op, .str x.value, .bool x.fold, .int .i64 x.anb.a, .int .i64 x.anb.b, .bool x.of_, .sl 68 x.list]
 | .st_VToken,(x:zk)=>[.int .u8 x.kind, .str x.text, .int .i64 x.num, .str x.unit, .bool x.flag]
 | .st_VValue,(x:ze)=>[.int .u8 x.token.kind, .str x.token.text, .int .i64 x.token.num, .str x.token.unit, .bool x.token.flag, .sl 135 x.list]
 | .st_Vcond_reader,(x:zB)=>[.sl 135 x.v]
 | .st_Vglue_start,(x:Zz)=>[.int .i64 x.token, .int .i64 x.at_]
 | .st_Vnest_found,(x:zU)=>[.int .i64 x.depth, .int .i64 x.tokens, .bool x.bad]
 | .st_Vref08_base,(x:QB)=>[.int .u8 x.kind, .str x.name, .int .u8 x.op, .str x.value, .bool x.fold, .int .i64 x.anb.a, .int .i64 x.anb.b, .bool x.of_]
 | .st_Vref08_place,(x:zX)=>[.int .i64 x.deep, .bool x.has]
 | .st_Vruntime_boundsError,(x:ZR)=>[.int .i64 x.x, .int .i64 x.y, .bool x.signed, .int .u8 x.code]
 | .st_Vseltext_place,(x:zh)=>[.int .i64 x.deep, .bool x.has]
 | .st_Vseltext_reader,(x:zw)=>[.sl 135 x.v, .int .i64 x.at_]
 | .st_Vsheet_found,(x:zq)=>[.int .i64 x.rules, .int .i64 x.depth, .bool x.bad]
 | .st_Vsheet_parser,(x:zJ)=>[.int .i64 x.room, .int .i64 x.constructs]
 | .st_Vtoken_scanner,(x:zb)=>[.str x.s, .int .i64 x.at_]
 | .str,(x:Str)=>[.str x]
 | .other,_=>List.replicate n .nil
def PL:EV Cn->Option Int
 | .int .i32 n=>some n
 |_=>none
def Z8:EV Cn->Option Int
 | .int .i64 n=>some n
 |_=>none
def NL:EV Cn->Option Int
 | .int .u32 n=>some n
 |_=>none
def ML:EV Cn->Option Int
 | .int .u64 n=>some n
 |_=>none
def og:EV Cn->Option Int
 | .int .u8 n=>some n
 |_=>none
def Jg:EV Cn->Option Bool
 | .bool b=>some b
 |_=>none
def dStr:EV Cn->Option Str
 | .str l=>some l
 |_=>none
def KJ:EV Cn->Option (List Int)
 | .nil=>some []
 | .sl 2 l=>some l
 |_=>none
def aD:EV Cn->Option (List UInt8)
 | .nil=>some []
 | .sl 5 l=>some l
 |_=>none
def JJ:EV Cn->Option (List Str)
 | .nil=>some []
 | .sl 9 l=>some l
 |_=>none
def BK:EV Cn->Option (List (List ze))
 | .nil=>some []
 | .sl 31 l=>some l
 |_=>none
def uD:EV Cn->Option (List Za)
 | .nil=>some []
 | .sl 33 l=>some l
 |_=>none
def Uw:EV Cn->Option (List zm)
 | .nil=>some []
 | .sl 36 l=>some l
 |_=>none
def Tw:EV Cn->Option (List zC)
 | .nil=>some []
 | .sl 39 l=>some l
 |_=>none
def sD:EV Cn->Option (List (List Str))
 | .nil=>some []
 | .sl 59 l=>some l
 |_=>none
def rD:EV Cn->Option (List zy)
 | .nil=>some []
 | .sl 65 l=>some l
 |_=>none
def fw:EV Cn->Option (List zg)
 | .nil=>some []
 | .sl 68 l=>some l
 |_=>none
def oD:EV Cn->Option (List zx)
 | .nil=>some []
 | .sl 72 l=>some l
 |_=>none
def sK:EV Cn->Option (List zk)
 | .nil=>some []
 | .sl 131 l=>some l
 |_=>none
def Dj:EV Cn->Option (List ze)
 | .nil=>some []
 | .sl 135 l=>some l
 |_=>none
def pK:EV Cn->Option (List Zz)
 | .nil=>some []
 | .sl 332 l=>some l
 |_=>none
def mC:(c:TC)->List (EV Cn)->Option (Ct c)
 | .bool=>fun cs=>match cs with|[a0]=>(Jg a0).bind fun x0=>some x0|_=>none
 | .int_i32=>fun cs=>match cs with|[a0]=>(PL a0).bind fun x0=>some x0|_=>none
 | .int_i64=>fun cs=>match cs with|[a0]=>(Z8 a0).bind fun x0=>some x0|_=>none
 | .int_u32=>fun cs=>match cs with|[a0]=>(NL a0).bind fun x0=>some x0|_=>none
 | .int_u64=>fun cs=>match cs with|[a0]=>(ML a0).bind fun x0=>some x0|_=>none
 | .int_u8=>fun cs=>match cs with|[a0]=>(og a0).bind qE|_=>none
 | .sl_131=>fun cs=>match cs with|[a0]=>(sK a0).bind fun x0=>some x0|_=>none
 | .sl_135=>fun cs=>match cs with|[a0]=>(Dj a0).bind fun x0=>some x0|_=>none
 | .sl_2=>fun cs=>match cs with|[a0]=>(KJ a0).bind fun x0=>some x0|_=>none
 | .sl_31=>fun cs=>match cs with|[a0]=>(BK a0).bind fun x0=>some x0|_=>none
 | .sl_33=>fun cs=>match cs with|[a0]=>(uD a0).bind fun x0=>some x0|_=>none
 | .sl_332=>fun cs=>match cs with|[a0]=>(pK a0).bind fun x0=>some x0|_=>none
 | .sl_36=>fun cs=>match cs with|[a0]=>(Uw a0).bind fun x0=>some x0|_=>none
 | .sl_39=>fun cs=>match cs with|[a0]=>(Tw a0).bind fun x0=>some x0|_=>none
 | .sl_5=>fun cs=>match cs with|[a0]=>(aD a0).bind fun x0=>some x0|_=>none
 | .sl_59=>fun cs=>match cs with|[a0]=>(sD a0).bind fun x0=>some x0|_=>none
 | .sl_65=>fun cs=>match cs with|[a0]=>(rD a0).bind fun x0=>some x0|_=>none
 | .sl_68=>fun cs=>match cs with|[a0]=>(fw a0).bind fun x0=>some x0|_=>none
 | .sl_72=>fun cs=>match cs with|[a0]=>(oD a0).bind fun x0=>some x0|_=>none
 | .sl_9=>fun cs=>match cs with|[a0]=>(JJ a0).bind fun x0=>some x0|_=>none
 | .st_VAnb=>fun cs=>match cs with|[a0,a1]=>(Z8 a0).bind fun x0=>(Z8 a1).bind fun x1=>some (⟨x0,x1⟩:VAnb)|_=>none
 | .st_VArr12_str=>fun cs=>match cs with|[a0,a1,a2,a3,a4,a5,a6,a7,a8,a9,a10,a11]=>(dStr a0).bind fun x0=>(dStr a1).bind fun x1=>(dStr a2).bind fun x2=>(dStr a3).bind fun x3=>(dStr a4).bind fun x4=>(dStr a5).bind fun x5=>(dStr a6).bind fun x6=>(dStr a7).bind fun x7=>(dStr a8).bind fun x8=>(dStr a9).bind fun x9=>(dStr a10).bind fun x10=>(dStr a11).bind fun x11=>some (⟨x0,x1,x2,x3,x4,x5,x6,x7,x8,x9,x10,x11⟩:za7)|_=>none
 | .st_VArr2_str=>fun cs=>match cs with|[a0,a1]=>(dStr a0).bind fun x0=>(dStr a1).bind fun x1=>some (⟨x0,x1⟩:zgG)|_=>none
 | .st_VArr5_str=>fun cs=>match cs with|[a0,a1,a2,a3,a4]=>(dStr a0).bind fun x0=>(dStr a1).bind fun x1=>(dStr a2).bind fun x2=>(dStr a3).bind fun x3=>(dStr a4).bind fun x4=>some (⟨x0,x1,x2,x3,x4⟩:zgH)|_=>none
 | .st_VArr7_str=>fun cs=>match cs with|[a0,a1,a2,a3,a4,a5,a6]=>(dStr a0).bind fun x0=>(dStr a1).bind fun x1=>(dStr a2).bind fun x2=>(dStr a3).bind fun x3=>(dStr a4).bind fun x4=>(dStr a5).bind fun x5=>(dStr a6).bind fun x6=>some (⟨x0,x1,x2,x3,x4,x5,x6⟩:zgI)|_=>none
 | .st_VComplex=>fun cs=>match cs with|[a0,a1,a2]=>(og a0).bind fun x0=>(rD a1).bind fun x1=>(aD a2).bind fun x2=>some (⟨x0,x1,x2⟩:zg)|_=>none
 | .st_VCompound=>fun cs=>match cs with|[a0,a1]=>(dStr a0).bind fun x0=>(oD a1).bind fun x1=>some (⟨x0,x1⟩:zy)|_=>none
 | .st_VCond=>fun cs=>match cs with|[a0,a1,a2,a3,a4,a5,a6]=>(og a0).bind fun x0=>(dStr a1).bind fun x1=>(Z8 a2).bind fun x2=>(dStr a3).bind fun x3=>(Dj a4).bind fun x4=>(Jg a5).bind fun x5=>(Uw a6).bind fun x6=>some (⟨x0,x1,x2,(⟨x3,x4,x5⟩:Za),x6⟩:zm)|_=>none
 | .st_VDecl=>fun cs=>match cs with|[a0,a1,a2]=>(dStr a0).bind fun x0=>(Dj a1).bind fun x1=>(Jg a2).bind fun x2=>some (⟨x0,x1,x2⟩:Za)|_=>none
 | .st_VRule=>fun cs=>match cs with|[a0,a1,a2,a3,a4,a5,a6,a7,a8,a9,a10,a11]=>(og a0).bind fun x0=>(fw a1).bind fun x1=>(uD a2).bind fun x2=>(og a3).bind fun x3=>(dStr a4).bind fun x4=>(Z8 a5).bind fun x5=>(dStr a6).bind fun x6=>(Dj a7).bind fun x7=>(Jg a8).bind fun x8=>(Uw a9).bind fun x9=>(sD a10).bind fun x10=>(Tw a11).bind fun x11=>some (⟨x0,x1,x2,(⟨x3,x4,x5,(⟨x6,x7,x8⟩:Za),x9⟩:zm),x10,x11⟩:zC)|_=>none
 | .st_VSheet=>fun cs=>match cs with|[a0]=>(Tw a0).bind fun x0=>some (⟨x0⟩:ZN)|_=>none
 | .st_VSimple=>fun cs=>match cs with|[a0,a1,a2,a3,a4,a5,a6,a7,a8]=>(og a0).bind fun x0=>(dStr a1).bind fun x1=>(og a2).bind fun x2=>(dStr a3).bind fun x3=>(Jg a4).bind fun x4=>(Z8 a5).bind fun x5=>(Z8 a6).bind fun x6=>(Jg a7).bind fun x7=>(fw a8).bind fun x8=>some (⟨x0,x1,x2,x3,x4,(⟨x5,x6⟩:VAnb),x7,x8⟩:zx)|_=>none
 | .st_VToken=>fun cs=>match cs with|[a0,a1,a2,a3,a4]=>(og a0).bind fun x0=>(dStr a1).bind fun x1=>(Z8 a2).bind fun x2=>(dStr a3).bind fun x3=>(Jg a4).bind fun x4=>some (⟨x0,x1,x2,x3,x4⟩:zk)|_=>none
 | .st_VValue=>fun cs=>match cs with|[a0,a1,a2,a3,a4,a5]=>(og a0).bind fun x0=>(dStr a1).bind fun x1=>(Z8 a2).bind fun x2=>(dStr a3).bind fun x3=>(Jg a4).bind fun x4=>(Dj a5).bind fun x5=>some (⟨(⟨x0,x1,x2,x3,x4⟩:zk),x5⟩:ze)|_=>none
 | .st_Vcond_reader=>fun cs=>match cs with|[a0]=>(Dj a0).bind fun x0=>some (⟨x0⟩:zB)|_=>none
 | .st_Vglue_start=>fun cs=>match cs with|[a0,a1]=>(Z8 a0).bind fun x0=>(Z8 a1).bind fun x1=>some (⟨x0,x1⟩:Zz)|_=>none
 | .st_Vnest_found=>fun cs=>match cs with|[a0,a1,a2]=>(Z8 a0).bind fun x0=>(Z8 a1).bind fun x1=>(Jg a2).bind fun x2=>some (⟨x0,x1,x2⟩:zU)|_=>none
 | .st_Vref08_base=>fun cs=>match cs with|[a0,a1,a2,a3,a4,a5,a6,a7]=>(og a0).bind fun x0=>(dStr a1).bind fun x1=>(og a2).bind fun x2=>(dStr a3).bind fun x3=>(Jg a4).bind fun x4=>(Z8 a5).bind fun x5=>(Z8 a6).bind fun x6=>(Jg a7).bind fun x7=>some (⟨x0,x1,x2,x3,x4,(⟨x5,x6⟩:VAnb),x7⟩:QB)|_=>none
 | .st_Vref08_place=>fun cs=>match cs with|[a0,a1]=>(Z8 a0).bind fun x0=>(Jg a1).bind fun x1=>some (⟨x0,x1⟩:zX)|_=>none
 | .st_Vruntime_boundsError=>fun cs=>match cs with|[a0,a1,a2,a3]=>(Z8 a0).bind fun x0=>(Z8 a1).bind fun x1=>(Jg a2).bind fun x2=>(og a3).bind fun x3=>some (⟨x0,x1,x2,x3⟩:ZR)|_=>none
 | .st_Vseltext_place=>fun cs=>match cs with|[a0,a1]=>(Z8 a0).bind fun x0=>(Jg a1).bind fun x1=>some (⟨x0,x1⟩:zh)|_=>none
 | .st_Vseltext_reader=>fun cs=>match cs with|[a0,a1]=>(Dj a0).bind fun x0=>(Z8 a1).bind fun x1=>some (⟨x0,x1⟩:zw)|_=>none
 | .st_Vsheet_found=>fun cs=>match cs with|[a0,a1,a2]=>(Z8 a0).bind fun x0=>(Z8 a1).bind fun x1=>(Jg a2).bind fun x2=>some (⟨x0,x1,x2⟩:zq)|_=>none
 | .st_Vsheet_parser=>fun cs=>match cs with|[a0,a1]=>(Z8 a0).bind fun x0=>(Z8 a1).bind fun x1=>some (⟨x0,x1⟩:zJ)|_=>none
 | .st_Vtoken_scanner=>fun cs=>match cs with|[a0,a1]=>(dStr a0).bind fun x0=>(Z8 a1).bind fun x1=>some (⟨x0,x1⟩:zb)|_=>none
 | .str=>fun cs=>match cs with|[a0]=>(dStr a0).bind fun x0=>some x0|_=>none
 | .other=>fun _=>none
def bC:(c:TC)->Option ((List UInt8->List (Ct c))×(List (Ct c)->List UInt8))
 | .int_u8=>some (fun l=>l,fun l=>l)
 |_=>none
noncomputable def I:Ip:=⟨Cn,fun t=>dC (tc t),fun t=>eC (Tryz.prog.cellsOf t) (tc t),fun t=>mC (tc t),fun t=>fC (Tryz.prog.cellsOf t) (tc t),fun t=>bC (tc t)⟩
theorem zN9:(tab.all fun p=>Nat.beq (Tryz.prog.cellsOf p.1) (size p.2))=true:=by kernel_rfl
theorem zKt(t:Nat)(h:tc t≠ .other):Tryz.prog.cellsOf t=size (tc t):=by
 unfold tc at h ⊢;cases hl:lk tab t with
 |none=>rw[hl]at h;exact absurd rfl h
 |some c=> simp only;exact La (Nb.1 zN9 _ (bf hl))
def Dec(a:EV Cn)(p:PV):Prop:=jh (I:=I) a=true/\WkP (pvE I a) p
theorem decs{cs:List (EV Cn)}{ps:List PV}(h:All2 Dec cs ps):(∀v∈cs,jh (I:=I) v=true)/\cs.length=ps.length/\ ∀(j:Nat) (a b:PV),(cs.map (pvE I))[j]? =some a->ps[j]? =some b->WkP a b:=by
 induction h with
 |nil=>exact⟨fun v hv=>(by cases hv),rfl,fun j a b ha=>(by cases ha)⟩
 |cons h1 _ ih=>
  refine⟨fun v hv=> ?_,congrArg Nat.succ ih.2.1,fun j a b ha hb=> ?_⟩
  ·rcases Db.1 hv with rfl|hv
   ·exact h1.1
   ·exact ih.1 v hv
  ·cases j with
   |zero=>injection ha with ha;injection hb with hb;rw[<-ha,<-hb];exact h1.2
   |succ j=>exact ih.2.2 j a b ha hb
theorem zEP{a:EV Cn}{x:Int}(h:PL a=some x):Dec a (.at (.int .i32 x)):=by
 unfold PL at h;split at h
 ·cases h;exact⟨rfl, .refl _⟩
 ·cases h
theorem Zv{a:EV Cn}{x:Int}(h:Z8 a=some x):Dec a (.at (.int .i64 x)):=by
 unfold Z8 at h;split at h
 ·cases h;exact⟨rfl, .refl _⟩
 ·cases h
theorem zEQ{a:EV Cn}{x:Int}(h:NL a=some x):Dec a (.at (.int .u32 x)):=by
 unfold NL at h;split at h
 ·cases h;exact⟨rfl, .refl _⟩
 ·cases h
theorem zER{a:EV Cn}{x:Int}(h:ML a=some x):Dec a (.at (.int .u64 x)):=by
 unfold ML at h;split at h
 ·cases h;exact⟨rfl, .refl _⟩
 ·cases h
theorem QX{a:EV Cn}{x:Int}(h:og a=some x):Dec a (.at (.int .u8 x)):=by
 unfold og at h;split at h
 ·cases h;exact⟨rfl, .refl _⟩
 ·cases h
theorem ig{a:EV Cn}{x:Bool}(h:Jg a=some x):Dec a (.at (.bool x)):=by
 unfold Jg at h;split at h
 ·cases h;exact⟨rfl, .refl _⟩
 ·cases h
theorem ZI{a:EV Cn}{x:Str}(h:dStr a=some x):Dec a (.str x):=by
 unfold dStr at h;split at h
 ·cases h;exact⟨rfl, .refl _⟩
 ·cases h
theorem zKz{a:EV Cn}{x:List Int}(h:KJ a=some x):Dec a (.sl (x.map (I.full 2))):=by
 unfold KJ at h;split at h
 ·cases h;exact⟨rfl, .nil⟩
 ·cases h;exact⟨rfl, .refl _⟩
 ·cases h
theorem CV{a:EV Cn}{x:List UInt8}(h:aD a=some x):Dec a (.sl (x.map (I.full 5))):=by
 unfold aD at h;split at h
 ·cases h;exact⟨rfl, .nil⟩
 ·cases h;exact⟨rfl, .refl _⟩
 ·cases h
theorem zKB{a:EV Cn}{x:List Str}(h:JJ a=some x):Dec a (.sl (x.map (I.full 9))):=by
 unfold JJ at h;split at h
 ·cases h;exact⟨rfl, .nil⟩
 ·cases h;exact⟨rfl, .refl _⟩
 ·cases h
theorem zIc{a:EV Cn}{x:List (List ze)}(h:BK a=some x):Dec a (.sl (x.map (I.full 31))):=by
 unfold BK at h;split at h
 ·cases h;exact⟨rfl, .nil⟩
 ·cases h;exact⟨rfl, .refl _⟩
 ·cases h
theorem OW{a:EV Cn}{x:List Za}(h:uD a=some x):Dec a (.sl (x.map (I.full 33))):=by
 unfold uD at h;split at h
 ·cases h;exact⟨rfl, .nil⟩
 ·cases h;exact⟨rfl, .refl _⟩
 ·cases h
theorem BF{a:EV Cn}{x:List zm}(h:Uw a=some x):Dec a (.sl (x.map (I.full 36))):=by
 unfold Uw at h;split at h
 ·cases h;exact⟨rfl, .nil⟩
 ·cases h;exact⟨rfl, .refl _⟩
 ·cases h
theorem yE{a:EV Cn}{x:List zC}(h:Tw a=some x):Dec a (.sl (x.map (I.full 39))):=by
 unfold Tw at h;split at h
 ·cases h;exact⟨rfl, .nil⟩
 ·cases h;exact⟨rfl, .refl _⟩
 ·cases h
theorem iW{a:EV Cn}{x:List (List Str)}(h:sD a=some x):Dec a (.sl (x.map (I.full 59))):=by
 unfold sD at h;split at h
 ·cases h;exact⟨rfl, .nil⟩
 ·cases h;exact⟨rfl, .refl _⟩
 ·cases h
theorem gW{a:EV Cn}{x:List zy}(h:rD a=some x):Dec a (.sl (x.map (I.full 65))):=by
 unfold rD at h;split at h
 ·cases h;exact⟨rfl, .nil⟩
 ·cases h;exact⟨rfl, .refl _⟩
 ·cases h
theorem xE{a:EV Cn}{x:List zg}(h:fw a=some x):Dec a (.sl (x.map (I.full 68))):=by
 unfold fw at h;split at h
 ·cases h;exact⟨rfl, .nil⟩
 ·cases h;exact⟨rfl, .refl _⟩
 ·cases h
theorem dW{a:EV Cn}{x:List zx}(h:oD a=some x):Dec a (.sl (x.map (I.full 72))):=by
 unfold oD at h;split at h
 ·cases h;exact⟨rfl, .nil⟩
 ·cases h;exact⟨rfl, .refl _⟩
 ·cases h
theorem zGT{a:EV Cn}{x:List zk}(h:sK a=some x):Dec a (.sl (x.map (I.full 131))):=by
 unfold sK at h;split at h
 ·cases h;exact⟨rfl, .nil⟩
 ·cases h;exact⟨rfl, .refl _⟩
 ·cases h
theorem Lm{a:EV Cn}{x:List ze}(h:Dj a=some x):Dec a (.sl (x.map (I.full 135))):=by
 unfold Dj at h;split at h
 ·cases h;exact⟨rfl, .nil⟩
 ·cases h;exact⟨rfl, .refl _⟩
 ·cases h
theorem zGU{a:EV Cn}{x:List Zz}(h:pK a=some x):Dec a (.sl (x.map (I.full 332))):=by
 unfold pK at h;split at h
 ·cases h;exact⟨rfl, .nil⟩
 ·cases h;exact⟨rfl, .refl _⟩
 ·cases h
theorem zMV(n:Nat): ∀(c:TC) (cs:List (EV Cn)) (x:Ct c),mC c cs=some x->All2 Dec cs (fC n c x)
 | .bool,cs,x,h=>by
  simp only[mC]at h;split at h
  ·obtain⟨x0,h0,h⟩:=Aa.1 h;injection h with h;subst h;exact .cons (ig h0) .nil
  ·cases h
 | .int_i32,cs,x,h=>by
  simp only[mC]at h;split at h
  ·obtain⟨x0,h0,h⟩:=Aa.1 h;injection h with h;subst h;exact .cons (zEP h0) .nil
  ·cases h
 | .int_i64,cs,x,h=>by
  simp only[mC]at h;split at h
  ·obtain⟨x0,h0,h⟩:=Aa.1 h;injection h with h;subst h;exact .cons (Zv h0) .nil
  ·cases h
 | .int_u32,cs,x,h=>by
  simp only[mC]at h;split at h
  ·obtain⟨x0,h0,h⟩:=Aa.1 h;injection h with h;subst h;exact .cons (zEQ h0) .nil
  ·cases h
 | .int_u64,cs,x,h=>by
  simp only[mC]at h;split at h
  ·obtain⟨x0,h0,h⟩:=Aa.1 h;injection h with h;subst h;exact .cons (zER h0) .nil
  ·cases h
 | .int_u8,cs,x,h=>by
  simp only[mC]at h;split at h
  ·obtain⟨x0,h0,h⟩:=Aa.1 h;have:=zHN h;subst this;exact .cons (QX h0) .nil
  ·cases h
 | .sl_131,cs,x,h=>by
  simp only[mC]at h;split at h
  ·obtain⟨x0,h0,h⟩:=Aa.1 h;injection h with h;subst h;exact .cons (zGT h0) .nil
  ·cases h
 | .sl_135,cs,x,h=>by
  simp only[mC]at h;split at h
  ·obtain⟨x0,h0,h⟩:=Aa.1 h;injection h with h;subst h;exact .cons (Lm h0) .nil
  ·cases h
 | .sl_2,cs,x,h=>by
  simp only[mC]at h;split at h
  ·obtain⟨x0,h0,h⟩:=Aa.1 h;injection h with h;subst h;exact .cons (zKz h0) .nil
  ·cases h
 | .sl_31,cs,x,h=>by
  simp only[mC]at h;split at h
  ·obtain⟨x0,h0,h⟩:=Aa.1 h;injection h with h;subst h;exact .cons (zIc h0) .nil
  ·cases h
 | .sl_33,cs,x,h=>by
  simp only[mC]at h;split at h
  ·obtain⟨x0,h0,h⟩:=Aa.1 h;injection h with h;subst h;exact .cons (OW h0) .nil
  ·cases h
 | .sl_332,cs,x,h=>by
  simp only[mC]at h;split at h
  ·obtain⟨x0,h0,h⟩:=Aa.1 h;injection h with h;subst h;exact .cons (zGU h0) .nil
  ·cases h
 | .sl_36,cs,x,h=>by
  simp only[mC]at h;split at h
  ·obtain⟨x0,h0,h⟩:=Aa.1 h;injection h with h;subst h;exact .cons (BF h0) .nil
  ·cases h
 | .sl_39,cs,x,h=>by
  simp only[mC]at h;split at h
  ·obtain⟨x0,h0,h⟩:=Aa.1 h;injection h with h;subst h;exact .cons (yE h0) .nil
  ·cases h
 | .sl_5,cs,x,h=>by
  simp only[mC]at h;split at h
  ·obtain⟨x0,h0,h⟩:=Aa.1 h;injection h with h;subst h;exact .cons (CV h0) .nil
  ·cases h
 | .sl_59,cs,x,h=>by
  simp only[mC]at h;split at h
  ·obtain⟨x0,h0,h⟩:=Aa.1 h;injection h with h;subst h;exact .cons (iW h0) .nil
  ·cases h
 | .sl_65,cs,x,h=>by
  simp only[mC]at h;split at h
  ·obtain⟨x0,h0,h⟩:=Aa.1 h;injection h with h;subst h;exact .cons (gW h0) .nil
  ·cases h
 | .sl_68,cs,x,h=>by
  simp only[mC]at h;split at h
  ·obtain⟨x0,h0,h⟩:=Aa.1 h;injection h with h;subst h;exact .cons (xE h0) .nil
  ·cases h
 | .sl_72,cs,x,h=>by
  simp only[mC]at h;split at h
  ·obtain⟨x0,h0,h⟩:=Aa.1 h;injection h with h;subst h;exact .cons (dW h0) .nil
  ·cases h
 | .sl_9,cs,x,h=>by
  simp only[mC]at h;split at h
  ·obtain⟨x0,h0,h⟩:=Aa.1 h;injection h with h;subst h;exact .cons (zKB h0) .nil
  ·cases h
 | .st_VAnb,cs,x,h=>by
  simp only[mC]at h;split at h
  ·obtain⟨x0,h0,h⟩:=Aa.1 h;obtain⟨x1,h1,h⟩:=Aa.1 h;injection h with h;subst h;exact .cons (Zv h0) (.cons (Zv h1) .nil)
  ·cases h
 | .st_VArr12_str,cs,x,h=>by
  simp only[mC]at h;split at h
  ·obtain⟨x0,h0,h⟩:=Aa.1 h;obtain⟨x1,h1,h⟩:=Aa.1 h;obtain⟨x2,h2,h⟩:=Aa.1 h;obtain⟨x3,h3,h⟩:=Aa.1 h;obtain⟨x4,h4,h⟩:=Aa.1 h;obtain⟨x5,h5,h⟩:=Aa.1 h;obtain⟨x6,h6,h⟩:=Aa.1 h;obtain⟨x7,h7,h⟩:=Aa.1 h;obtain⟨x8,h8,h⟩:=Aa.1 h;obtain⟨x9,h9,h⟩:=Aa.1 h;obtain⟨x10,h10,h⟩:=Aa.1 h;obtain⟨x11,h11,h⟩:=Aa.1 h;injection h with h;subst h;exact .cons (ZI h0) (.cons (ZI h1) (.cons (ZI h2) (.cons (ZI h3) (.cons (ZI h4) (.cons (ZI h5) (.cons (ZI h6) (.cons (ZI h7) (.cons (ZI h8) (.cons (ZI h9) (.cons (ZI h10) (.cons (ZI h11) .nil)))))))))))
  ·cases h
 | .st_VArr2_str,cs,x,h=>by
  simp only[mC]at h;split at h
  ·obtain⟨x0,h0,h⟩:=Aa.1 h;obtain⟨x1,h1,h⟩:=Aa.1 h;injection h with h;subst h;exact .cons (ZI h0) (.cons (ZI h1) .nil)
  ·cases h
 | .st_VArr5_str,cs,x,h=>by
  simp only[mC]at h;split at h
  ·obtain⟨x0,h0,h⟩:=Aa.1 h;obtain⟨x1,h1,h⟩:=Aa.1 h;obtain⟨x2,h2,h⟩:=Aa.1 h;obtain⟨x3,h3,h⟩:=Aa.1 h;obtain⟨x4,h4,h⟩:=Aa.1 h;injection h with h;subst h;exact .cons (ZI h0) (.cons (ZI h1) (.cons (ZI h2) (.cons (ZI h3) (.cons (ZI h4) .nil))))
  ·cases h
 | .st_VArr7_str,cs,x,h=>by
  simp only[mC]at h;split at h
  ·obtain⟨x0,h0,h⟩:=Aa.1 h;obtain⟨x1,h1,h⟩:=Aa.1 h;obtain⟨x2,h2,h⟩:=Aa.1 h;obtain⟨x3,h3,h⟩:=Aa.1 h;obtain⟨x4,h4,h⟩:=Aa.1 h;obtain⟨x5,h5,h⟩:=Aa.1 h;obtain⟨x6,h6,h⟩:=Aa.1 h;injection h with h;subst h;exact .cons (ZI h0) (.cons (ZI h1) (.cons (ZI h2) (.cons (ZI h3) (.cons (ZI h4) (.cons (ZI h5) (.cons (ZI h6) .nil))))))
  ·cases h
 | .st_VComplex,cs,x,h=>by
  simp only[mC]at h;split at h
  ·obtain⟨x0,h0,h⟩:=Aa.1 h;obtain⟨x1,h1,h⟩:=Aa.1 h;obtain⟨x2,h2,h⟩:=Aa.1 h;injection h with h;subst h;show All2 Dec _ (zo _);simp only[zo,Z7,ZQ,qf];exact .cons (QX h0) (.cons (gW h1) (.cons (CV h2) .nil))
  ·cases h
 | .st_VCompound,cs,x,h=>by
  simp only[mC]at h;split at h
  ·obtain⟨x0,h0,h⟩:=Aa.1 h;obtain⟨x1,h1,h⟩:=Aa.1 h;injection h with h;subst h;show All2 Dec _ (zT _);simp only[zT,Z7,ZQ,qf];exact .cons (ZI h0) (.cons (dW h1) .nil)
  ·cases h
 | .st_VCond,cs,x,h=>by
  simp only[mC]at h;split at h
  ·obtain⟨x0,h0,h⟩:=Aa.1 h;obtain⟨x1,h1,h⟩:=Aa.1 h;obtain⟨x2,h2,h⟩:=Aa.1 h;obtain⟨x3,h3,h⟩:=Aa.1 h;obtain⟨x4,h4,h⟩:=Aa.1 h;obtain⟨x5,h5,h⟩:=Aa.1 h;obtain⟨x6,h6,h⟩:=Aa.1 h;injection h with h;subst h;show All2 Dec _ (zH _);simp only[zH,IB];exact .cons (QX h0) (.cons (ZI h1) (.cons (Zv h2) (.cons (ZI h3) (.cons (Lm h4) (.cons (ig h5) (.cons (BF h6) .nil))))))
  ·cases h
 | .st_VDecl,cs,x,h=>by
  simp only[mC]at h;split at h
  ·obtain⟨x0,h0,h⟩:=Aa.1 h;obtain⟨x1,h1,h⟩:=Aa.1 h;obtain⟨x2,h2,h⟩:=Aa.1 h;injection h with h;subst h;exact .cons (ZI h0) (.cons (Lm h1) (.cons (ig h2) .nil))
  ·cases h
 | .st_VRule,cs,x,h=>by
  simp only[mC]at h;split at h
  ·obtain⟨x0,h0,h⟩:=Aa.1 h;obtain⟨x1,h1,h⟩:=Aa.1 h;obtain⟨x2,h2,h⟩:=Aa.1 h;obtain⟨x3,h3,h⟩:=Aa.1 h;obtain⟨x4,h4,h⟩:=Aa.1 h;obtain⟨x5,h5,h⟩:=Aa.1 h;obtain⟨x6,h6,h⟩:=Aa.1 h;obtain⟨x7,h7,h⟩:=Aa.1 h;obtain⟨x8,h8,h⟩:=Aa.1 h;obtain⟨x9,h9,h⟩:=Aa.1 h;obtain⟨x10,h10,h⟩:=Aa.1 h;obtain⟨x11,h11,h⟩:=Aa.1 h;injection h with h;subst h;show All2 Dec _ (zD _);simp only[zD,FB];exact .cons (QX h0) (.cons (xE h1) (.cons (OW h2) (.cons (QX h3) (.cons (ZI h4) (.cons (Zv h5) (.cons (ZI h6) (.cons (Lm h7) (.cons (ig h8) (.cons (BF h9) (.cons (iW h10) (.cons (yE h11) .nil)))))))))))
  ·cases h
 | .st_VSheet,cs,x,h=>by
  simp only[mC]at h;split at h
  ·obtain⟨x0,h0,h⟩:=Aa.1 h;injection h with h;subst h;exact .cons (yE h0) .nil
  ·cases h
 | .st_VSimple,cs,x,h=>by
  simp only[mC]at h;split at h
  ·obtain⟨x0,h0,h⟩:=Aa.1 h;obtain⟨x1,h1,h⟩:=Aa.1 h;obtain⟨x2,h2,h⟩:=Aa.1 h;obtain⟨x3,h3,h⟩:=Aa.1 h;obtain⟨x4,h4,h⟩:=Aa.1 h;obtain⟨x5,h5,h⟩:=Aa.1 h;obtain⟨x6,h6,h⟩:=Aa.1 h;obtain⟨x7,h7,h⟩:=Aa.1 h;obtain⟨x8,h8,h⟩:=Aa.1 h;injection h with h;subst h;show All2 Dec _ (Zd _);simp only[Zd,Z7,ZQ,qf];exact .cons (QX h0) (.cons (ZI h1) (.cons (QX h2) (.cons (ZI h3) (.cons (ig h4) (.cons (Zv h5) (.cons (Zv h6) (.cons (ig h7) (.cons (xE h8) .nil))))))))
  ·cases h
 | .st_VToken,cs,x,h=>by
  simp only[mC]at h;split at h
  ·obtain⟨x0,h0,h⟩:=Aa.1 h;obtain⟨x1,h1,h⟩:=Aa.1 h;obtain⟨x2,h2,h⟩:=Aa.1 h;obtain⟨x3,h3,h⟩:=Aa.1 h;obtain⟨x4,h4,h⟩:=Aa.1 h;injection h with h;subst h;exact .cons (QX h0) (.cons (ZI h1) (.cons (Zv h2) (.cons (ZI h3) (.cons (ig h4) .nil))))
  ·cases h
 | .st_VValue,cs,x,h=>by
  simp only[mC]at h;split at h
  ·obtain⟨x0,h0,h⟩:=Aa.1 h;obtain⟨x1,h1,h⟩:=Aa.1 h;obtain⟨x2,h2,h⟩:=Aa.1 h;obtain⟨x3,h3,h⟩:=Aa.1 h;obtain⟨x4,h4,h⟩:=Aa.1 h;obtain⟨x5,h5,h⟩:=Aa.1 h;injection h with h;subst h;show All2 Dec _ (Zr _);simp only[Zr,TB];exact .cons (QX h0) (.cons (ZI h1) (.cons (Zv h2) (.cons (ZI h3) (.cons (ig h4) (.cons (Lm h5) .nil)))))
  ·cases h
 | .st_Vcond_reader,cs,x,h=>by
  simp only[mC]at h;split at h
  ·obtain⟨x0,h0,h⟩:=Aa.1 h;injection h with h;subst h;exact .cons (Lm h0) .nil
  ·cases h
 | .st_Vglue_start,cs,x,h=>by
  simp only[mC]at h;split at h
  ·obtain⟨x0,h0,h⟩:=Aa.1 h;obtain⟨x1,h1,h⟩:=Aa.1 h;injection h with h;subst h;exact .cons (Zv h0) (.cons (Zv h1) .nil)
  ·cases h
 | .st_Vnest_found,cs,x,h=>by
  simp only[mC]at h;split at h
  ·obtain⟨x0,h0,h⟩:=Aa.1 h;obtain⟨x1,h1,h⟩:=Aa.1 h;obtain⟨x2,h2,h⟩:=Aa.1 h;injection h with h;subst h;exact .cons (Zv h0) (.cons (Zv h1) (.cons (ig h2) .nil))
  ·cases h
 | .st_Vref08_base,cs,x,h=>by
  simp only[mC]at h;split at h
  ·obtain⟨x0,h0,h⟩:=Aa.1 h;obtain⟨x1,h1,h⟩:=Aa.1 h;obtain⟨x2,h2,h⟩:=Aa.1 h;obtain⟨x3,h3,h⟩:=Aa.1 h;obtain⟨x4,h4,h⟩:=Aa.1 h;obtain⟨x5,h5,h⟩:=Aa.1 h;obtain⟨x6,h6,h⟩:=Aa.1 h;obtain⟨x7,h7,h⟩:=Aa.1 h;injection h with h;subst h;exact .cons (QX h0) (.cons (ZI h1) (.cons (QX h2) (.cons (ZI h3) (.cons (ig h4) (.cons (Zv h5) (.cons (Zv h6) (.cons (ig h7) .nil)))))))
  ·cases h
 | .st_Vref08_place,cs,x,h=>by
  simp only[mC]at h;split at h
  ·obtain⟨x0,h0,h⟩:=Aa.1 h;obtain⟨x1,h1,h⟩:=Aa.1 h;injection h with h;subst h;exact .cons (Zv h0) (.cons (ig h1) .nil)
  ·cases h
 | .st_Vruntime_boundsError,cs,x,h=>by
  simp only[mC]at h;split at h
  ·obtain⟨x0,h0,h⟩:=Aa.1 h;obtain⟨x1,h1,h⟩:=Aa.1 h;obtain⟨x2,h2,h⟩:=Aa.1 h;obtain⟨x3,h3,h⟩:=Aa.1 h;injection h with h;subst h;exact .cons (Zv h0) (.cons (Zv h1) (.cons (ig h2) (.cons (QX h3) .nil)))
  ·cases h
 | .st_Vseltext_place,cs,x,h=>by
  simp only[mC]at h;split at h
  ·obtain⟨x0,h0,h⟩:=Aa.1 h;obtain⟨x1,h1,h⟩:=Aa.1 h;injection h with h;subst h;exact .cons (Zv h0) (.cons (ig h1) .nil)
  ·cases h
 | .st_Vseltext_reader,cs,x,h=>by
  simp only[mC]at h;split at h
  ·obtain⟨x0,h0,h⟩:=Aa.1 h;obtain⟨x1,h1,h⟩:=Aa.1 h;injection h with h;subst h;exact .cons (Lm h0) (.cons (Zv h1) .nil)
  ·cases h
 | .st_Vsheet_found,cs,x,h=>by
  simp only[mC]at h;split at h
  ·obtain⟨x0,h0,h⟩:=Aa.1 h;obtain⟨x1,h1,h⟩:=Aa.1 h;obtain⟨x2,h2,h⟩:=Aa.1 h;injection h with h;subst h;exact .cons (Zv h0) (.cons (Zv h1) (.cons (ig h2) .nil))
  ·cases h
 | .st_Vsheet_parser,cs,x,h=>by
  simp only[mC]at h;split at h
  ·obtain⟨x0,h0,h⟩:=Aa.1 h;obtain⟨x1,h1,h⟩:=Aa.1 h;injection h with h;subst h;exact .cons (Zv h0) (.cons (Zv h1) .nil)
  ·cases h
 | .st_Vtoken_scanner,cs,x,h=>by
  simp only[mC]at h;split at h
  ·obtain⟨x0,h0,h⟩:=Aa.1 h;obtain⟨x1,h1,h⟩:=Aa.1 h;injection h with h;subst h;exact .cons (ZI h0) (.cons (Zv h1) .nil)
  ·cases h
 | .str,cs,x,h=>by
  simp only[mC]at h;split at h
  ·obtain⟨x0,h0,h⟩:=Aa.1 h;injection h with h;subst h;exact .cons (ZI h0) .nil
  ·cases h
 | .other,cs,x,h=>by cases h
theorem fe(n:Nat): ∀(c:TC) (x:Ct c),fC n c x=(eC n c x).map (pvE I)
 | .bool,x=>rfl
 | .int_i32,x=>rfl
 | .int_i64,x=>rfl
 | .int_u32,x=>rfl
 | .int_u64,x=>rfl
 | .int_u8,x=>rfl
 | .sl_131,x=>rfl
 | .sl_135,x=>rfl
 | .sl_2,x=>rfl
 | .sl_31,x=>rfl
 | .sl_33,x=>rfl
 | .sl_332,x=>rfl
 | .sl_36,x=>rfl
 | .sl_39,x=>rfl
 | .sl_5,x=>rfl
 | .sl_59,x=>rfl
 | .sl_65,x=>rfl
 | .sl_68,x=>rfl
 | .sl_72,x=>rfl
 | .sl_9,x=>rfl
 | .st_VAnb,x=>rfl
 | .st_VArr12_str,x=>rfl
 | .st_VArr2_str,x=>rfl
 | .st_VArr5_str,x=>rfl
 | .st_VArr7_str,x=>rfl
 | .st_VComplex,(x:zg)=>by obtain⟨x_lead,x_parts,x_combs⟩:=x;show zo _=_;simp only[zo,Z7,ZQ,qf];rfl
 | .st_VCompound,(x:zy)=>by obtain⟨x_tag,x_simples⟩:=x;show zT _=_;simp only[zT,Z7,ZQ,qf];rfl
 | .st_VCond,(x:zm)=>by obtain⟨x_kind,x_name,x_num,x_decl,x_list⟩:=x;show zH _=_;simp only[zH,IB];rfl
 | .st_VDecl,x=>rfl
 | .st_VRule,(x:zC)=>by obtain⟨x_kind,x_selectors,x_decls,x_cond,x_names,x_rules⟩:=x;show zD _=_;simp only[zD,FB];rfl
 | .st_VSheet,x=>rfl
 | .st_VSimple,(x:zx)=>by obtain⟨x_kind,x_name,x_op,x_value,x_fold,x_anb,x_of_,x_list⟩:=x;show Zd _=_;simp only[Zd,Z7,ZQ,qf];rfl
 | .st_VToken,x=>rfl
 | .st_VValue,(x:ze)=>by obtain⟨x_token,x_list⟩:=x;show Zr _=_;simp only[Zr,TB];rfl
 | .st_Vcond_reader,x=>rfl
 | .st_Vglue_start,x=>rfl
 | .st_Vnest_found,x=>rfl
 | .st_Vref08_base,x=>rfl
 | .st_Vref08_place,x=>rfl
 | .st_Vruntime_boundsError,x=>rfl
 | .st_Vseltext_place,x=>rfl
 | .st_Vseltext_reader,x=>rfl
 | .st_Vsheet_found,x=>rfl
 | .st_Vsheet_parser,x=>rfl
 | .st_Vtoken_scanner,x=>rfl
 | .str,x=>rfl
 | .other,x=>by show List.replicate n (PV.at (Value.slice none 0 0))=(List.replicate n EV.nil).map (pvE I);rw[List.map_replicate];rfl
theorem zNz(n:Nat)(c:TC)(x:Ct c)(h:c≠ .other->n=size c):(eC n c x).length=n:=by
 cases c
 case other=>simp[eC]
 all_goals (rw[h (by simp)];rfl)
theorem zMq(n:Nat): ∀(c:TC) (x:Ct c),(eC n c x).all (jh (I:=I))=true
 | .bool,x=>rfl
 | .int_i32,x=>rfl
 | .int_i64,x=>rfl
 | .int_u32,x=>rfl
 | .int_u64,x=>rfl
 | .int_u8,x=>rfl
 | .sl_131,x=>rfl
 | .sl_135,x=>rfl
 | .sl_2,x=>rfl
 | .sl_31,x=>rfl
 | .sl_33,x=>rfl
 | .sl_332,x=>rfl
 | .sl_36,x=>rfl
 | .sl_39,x=>rfl
 | .sl_5,x=>rfl
 | .sl_59,x=>rfl
 | .sl_65,x=>rfl
 | .sl_68,x=>rfl
 | .sl_72,x=>rfl
 | .sl_9,x=>rfl
 | .st_VAnb,x=>rfl
 | .st_VArr12_str,x=>rfl
 | .st_VArr2_str,x=>rfl
 | .st_VArr5_str,x=>rfl
 | .st_VArr7_str,x=>rfl
 | .st_VComplex,x=>rfl
 | .st_VCompound,x=>rfl
 | .st_VCond,x=>rfl
 | .st_VDecl,x=>rfl
 | .st_VRule,x=>rfl
 | .st_VSheet,x=>rfl
 | .st_VSimple,x=>rfl
 | .st_VToken,x=>rfl
 | .st_VValue,x=>rfl
 | .st_Vcond_reader,x=>rfl
 | .st_Vglue_start,x=>rfl
 | .st_Vnest_found,x=>rfl
 | .st_Vref08_base,x=>rfl
 | .st_Vref08_place,x=>rfl
 | .st_Vruntime_boundsError,x=>rfl
 | .st_Vseltext_place,x=>rfl
 | .st_Vseltext_reader,x=>rfl
 | .st_Vsheet_found,x=>rfl
 | .st_Vsheet_parser,x=>rfl
 | .st_Vtoken_scanner,x=>rfl
 | .str,x=>rfl
 | .other,x=>by show(List.replicate n EV.nil).all (jh (I:=I))=true;rw[Nb];intro v hv;rw[(List.mem_replicate.1 hv).2];rfl
theorem zOa:(tab.all fun p=>match p.2 with| .int_u8=>(match kdOf Tryz.prog p.1 with| .int .u8=>true|_=>false)|_=>true)=true:=by kernel_rfl
theorem zOh(t:Nat)(h:tc t= .int_u8):kdOf Tryz.prog t= .int .u8:=by
 unfold tc at h;cases hl:lk tab t with
 |none=>rw[hl]at h;cases h
 |some c=>
  rw[hl]at h;have h:c= .int_u8:=h;subst h;have:=Nb.1 zOa _ (bf hl);simp only at this;split at this
  ·assumption
  ·cases this
theorem zL6(n:Nat): ∀(c:TC) (p:(List UInt8->List (Ct c))×(List (Ct c)->List UInt8)),bC c=some p->(∀l,(p.1 l).map (fC n c)=l.map fun b=>[PV.at (.int .u8 b.toNat)])/\(∀l,l.map (fC n c)=(p.2 l).map fun b=>[PV.at (.int .u8 b.toNat)])/\c= .int_u8:=by
 intro c p h;cases c
 case int_u8=>cases h;exact⟨fun l=>rfl,fun l=>rfl,rfl⟩
 all_goals cases h
theorem zNu(t:Nat)(p:(List UInt8->List (I.C t))×(List (I.C t)->List UInt8))(h:I.byt t=some p):(∀l,(p.1 l).map (I.full t)=l.map fun b=>[PV.at (.int .u8 b.toNat)])/\(∀l,l.map (I.full t)=(p.2 l).map fun b=>[PV.at (.int .u8 b.toNat)])/\kdOf Tryz.prog t= .int .u8:=by obtain⟨h1,h2,h3⟩:=zL6 (Tryz.prog.cellsOf t) (tc t) p h;exact⟨h1,h2,zOh t h3⟩
theorem ipOK:IpOK Tryz.prog I where
 len:=fun t x=>by show(fC _ _ x).length=_;exact(congrArg List.length (fe _ (tc t) x)).trans ((Ta ..).trans (zNz _ (tc t) x (zKt t)))
 exp:=fun t x=>fe _ _ x
 pur:=fun t x v hv=>Nb.1 (zMq _ _ x) v hv
 made:=fun t cs x h=>decs (zMV _ _ cs x h)
 byt:=zNu
noncomputable def T:TT:=[(2,ti Tryz.prog 2),(3,ti Tryz.prog 3),(4,ti Tryz.prog 4),(5,ti Tryz.prog 5),(6,ti Tryz.prog 6),(7,ti Tryz.prog 7),(9,ti Tryz.prog 9),(11,ti Tryz.prog 11),(21,ti Tryz.prog 21),(23,ti Tryz.prog 23),(25,ti Tryz.prog 25),(26,ti Tryz.prog 26),(29,ti Tryz.prog 29),(30,ti Tryz.prog 30),(31,ti Tryz.prog 31),(33,ti Tryz.prog 33),(34,ti Tryz.prog 34),(36,ti Tryz.prog 36),(37,ti Tryz.prog 37),(39,ti Tryz.prog 39),(42,ti Tryz.prog 42),(59,ti Tryz.prog 59),(63,ti Tryz.prog 63),(65,ti Tryz.prog 65),(66,ti Tryz.prog 66),(68,ti Tryz.prog 68),(70,ti Tryz.prog 70),(72,ti Tryz.prog 72),(73,ti Tryz.prog 73),(77,ti Tryz.prog 77),(80,ti Tryz.prog 80),(90,ti Tryz.prog 90),(116,ti Tryz.prog 116),(118,ti Tryz.prog 118),(126,ti Tryz.prog 126),(131,ti Tryz.prog 131),(133,ti Tryz.prog 133),(135,ti Tryz.prog 135),(141,ti Tryz.prog 141),(151,ti Tryz.prog 151),(155,ti Tryz.prog 155),(166,ti Tryz.prog 166),(181,ti Tryz.prog 181),(190,ti Tryz.prog 190),(192,ti Tryz.prog 192),(212,ti Tryz.prog 212),(218,ti Tryz.prog 218),(223,ti Tryz.prog 223),(240,ti Tryz.prog 240),(242,ti Tryz.prog 242),(252,ti Tryz.prog 252),(258,ti Tryz.prog 258),(259,ti Tryz.prog 259),(272,ti Tryz.prog 272),(294,ti Tryz.prog 294),(306,ti Tryz.prog 306),(307,ti Tryz.prog 307),(311,ti Tryz.prog 311),(316,ti Tryz.prog 316),(326,ti Tryz.prog 326),(330,ti Tryz.prog 330),(332,ti Tryz.prog 332),(335,ti Tryz.prog 335),(361,ti Tryz.prog 361),(363,ti Tryz.prog 363),(372,ti Tryz.prog 372)]
def FK:List (Nat×List Kd):=[(70,[.int .i64, .int .i64]),(131,[.int .u8, .str, .int .i64, .str, .bool]),(212,[.int .u8, .str, .int .u8, .str, .bool, .int .i64, .int .i64, .bool])]
theorem tok:TOK Tryz.prog T FK:=tJ (l:=[2,3,4,5,6,7,9,11,21,23,25,26,29,30,31,33,34,36,37,39,42,59,63,65,66,68,70,72,73,77,80,90,116,118,126,131,133,135,141,151,155,166,181,190,192,212,218,223,240,242,252,258,259,272,294,306,307,311,316,326,330,332,335,361,363,372]) (by
 intro p hp;simp only[FK,Db,Ed,Dg]at hp;rcases hp with rfl|rfl|rfl<;>kernel_rfl)
theorem mixed:Tryz.prog.follows .mixedOrders=true:=by kernel_rfl
noncomputable def body(f:Go.Func):Code:=match f.body with|some c=>c|none=> .skip
noncomputable def rsl(f:Go.Func):List ResultVar:=f.results.toList
end Go.Lv.VT
