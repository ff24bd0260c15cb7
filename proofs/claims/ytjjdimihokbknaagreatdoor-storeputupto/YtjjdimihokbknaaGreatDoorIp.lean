/- What stands for the values of types. -/
import Derived.Test.YtjjdimihokbknaaGreatDoorProg
import Derived.Test.YtjjdimihokbknaaGreatDoorLf
import Derived.Test.YtjjdimihokbknaaGreatDoorTy
import Derived.KernelRfl
set_option linter.unusedSimpArgs false
set_option linter.unusedVariables false
namespace Go.Lv.VT
set_option maxRecDepth 100000
open Go.Proofs
inductive TC where
 |bool|int_i32|int_i64|int_u32|int_u64|int_u8|sl_105|sl_109|sl_114|sl_129|sl_131|sl_2|sl_3|sl_33|sl_5|sl_66|sl_68|sl_71|sl_74|sl_78|sl_9|st_VAnb|st_VComplex|st_VCompound|st_VCond|st_VDecl|st_VKept|st_VRule|st_VSheet|st_VSimple|st_VStore|st_VToken|st_VValue|st_Vcond_reader|st_Vnest_found|st_Vref08_base|st_Vref08_place|st_Vruntime_boundsError|st_Vseltext_place|st_Vseltext_reader|st_Vsheet_found|st_Vsheet_parser|st_Vtoken_scanner|str|other
def Ct:TC->Type
 | .bool=>Bool| .int_i32=>Int| .int_i64=>Int| .int_u32=>Int| .int_u64=>Int| .int_u8=>UInt8| .sl_105=>List zf| .sl_109=>List zI| .sl_114=>List zw| .sl_129=>List zk| .sl_131=>List ze| .sl_2=>List Int| .sl_3=>List Int| .sl_33=>List Zr| .sl_5=>List UInt8| .sl_66=>List (List ze)| .sl_68=>List Zd| .sl_71=>List zo| .sl_74=>List zK| .sl_78=>List (List Str)| .sl_9=>List Str| .st_VAnb=>VAnb| .st_VComplex=>zf| .st_VCompound=>zI| .st_VCond=>zo| .st_VDecl=>Zd| .st_VKept=>Zr| .st_VRule=>zK| .st_VSheet=>ZI| .st_VSimple=>zw| .st_VStore=>Ze| .st_VToken=>zk| .st_VValue=>ze| .st_Vcond_reader=>zx| .st_Vnest_found=>zS| .st_Vref08_base=>Qp| .st_Vref08_place=>zV| .st_Vruntime_boundsError=>ZM| .st_Vseltext_place=>zg| .st_Vseltext_reader=>zt| .st_Vsheet_found=>zq| .st_Vsheet_parser=>zJ| .st_Vtoken_scanner=>zb| .str=>Str| .other=>Unit
def tab:List (Nat×TC):=[(2, .int_i64),(3, .int_i64),(4, .bool),(5, .int_u8),(6, .int_u8),(7, .st_Vruntime_boundsError),(9, .str),(11, .str),(21, .int_i32),(22, .sl_33),(24, .st_VStore),(25, .sl_74),(27, .st_VSheet),(33, .st_VKept),(34, .int_i64),(62, .sl_3),(64, .sl_105),(65, .sl_68),(66, .sl_131),(68, .st_VDecl),(69, .sl_71),(71, .st_VCond),(72, .sl_78),(74, .st_VRule),(78, .sl_9),(100, .st_Vsheet_found),(102, .sl_109),(103, .sl_5),(105, .st_VComplex),(107, .sl_114),(109, .st_VCompound),(112, .st_VAnb),(114, .st_VSimple),(120, .sl_129),(126, .st_Vsheet_parser),(129, .st_VToken),(131, .st_VValue),(145, .sl_66),(155, .st_Vref08_place),(169, .st_Vseltext_place),(173, .st_Vnest_found),(191, .st_Vtoken_scanner),(211, .st_Vref08_base),(232, .st_Vcond_reader),(245, .int_u32),(281, .int_u64),(297, .sl_2),(325, .st_Vseltext_reader)]
def tc(t:Nat):TC:=match lk tab t with|some c=>c|none=> .other
def Cn(t:Nat):Type:=Ct (tc t)
def dC:(c:TC)->Ct c
 | .bool=>(default:Bool)| .int_i32=>(default:Int)| .int_i64=>(default:Int)| .int_u32=>(default:Int)| .int_u64=>(default:Int)| .int_u8=>(default:UInt8)| .sl_105=>(default:List zf)| .sl_109=>(default:List zI)| .sl_114=>(default:List zw)| .sl_129=>(default:List zk)| .sl_131=>(default:List ze)| .sl_2=>(default:List Int)| .sl_3=>(default:List Int)| .sl_33=>(default:List Zr)| .sl_5=>(default:List UInt8)| .sl_66=>(default:List (List ze))| .sl_68=>(default:List Zd)| .sl_71=>(default:List zo)| .sl_74=>(default:List zK)| .sl_78=>(default:List (List Str))| .sl_9=>(default:List Str)| .st_VAnb=>(default:VAnb)| .st_VComplex=>(default:zf)| .st_VCompound=>(default:zI)| .st_VCond=>(default:zo)| .st_VDecl=>(default:Zd)| .st_VKept=>(default:Zr)| .st_VRule=>(default:zK)| .st_VSheet=>(default:ZI)| .st_VSimple=>(default:zw)| .st_VStore=>(default:Ze)| .st_VToken=>(default:zk)| .st_VValue=>(default:ze)| .st_Vcond_reader=>(default:zx)| .st_Vnest_found=>(default:zS)| .st_Vref08_base=>(default:Qp)| .st_Vref08_place=>(default:zV)| .st_Vruntime_boundsError=>(default:ZM)| .st_Vseltext_place=>(default:zg)| .st_Vseltext_reader=>(default:zt)| .st_Vsheet_found=>(default:zq)| .st_Vsheet_parser=>(default:zJ)| .st_Vtoken_scanner=>(default:zb)| .str=>(default:Str)| .other=>()
def size:TC->Nat
 | .st_VAnb=>2| .st_VComplex=>3| .st_VCompound=>2| .st_VCond=>7| .st_VDecl=>3| .st_VKept=>4| .st_VRule=>12| .st_VSimple=>9| .st_VStore=>2| .st_VToken=>5| .st_VValue=>6| .st_Vnest_found=>3| .st_Vref08_base=>8| .st_Vref08_place=>2| .st_Vruntime_boundsError=>4| .st_Vseltext_place=>2| .st_Vseltext_reader=>2| .st_Vsheet_found=>3| .st_Vsheet_parser=>2| .st_Vtoken_scanner=>2|_=>1
def zIU(x:VAnb):List PV:=[.at (.int .i64 x.a), .at (.int .i64 x.b)]
mutual
def zm:zf->List PV
 |⟨x_lead,x_parts,x_combs⟩=>[.at (.int .u8 x_lead), .sl (nu x_parts), .sl (x_combs.map (fun y=>[.at (.int .u8 y.toNat)]))]
def Wu:List zf->List (List PV)
 |[]=>[]
 |v::r=>zm v::Wu r
def zU:zI->List PV
 |⟨x_tag,x_simples⟩=>[.str x_tag, .sl (Ru x_simples)]
def nu:List zI->List (List PV)
 |[]=>[]
 |v::r=>zU v::nu r
def z8:zw->List PV
 |⟨x_kind,x_name,x_op,x_value,x_fold,x_anb,x_of_,x_list⟩=>[.at (.int .u8 x_kind), .str x_name, .at (.int .u8 x_op), .str x_value, .at (.bool x_fold), .at (.int .i64 x_anb.a), .at (.int .i64 x_anb.b), .at (.bool x_of_), .sl (Wu x_list)]
def Ru:List zw->List (List PV)
 |[]=>[]
 |v::r=>z8 v::Ru r
end
theorem ZX: ∀(l:List zf),Wu l=l.map zm
 |[]=>by rw[Wu];rfl
 |v::r=>by rw[Wu,ZX r];rfl
theorem ZL: ∀(l:List zI),nu l=l.map zU
 |[]=>by rw[nu];rfl
 |v::r=>by rw[nu,ZL r];rfl
theorem Z7: ∀(l:List zw),Ru l=l.map z8
 |[]=>by rw[Ru];rfl
 |v::r=>by rw[Ru,Z7 r];rfl
def nK(x:zk):List PV:=[.at (.int .u8 x.kind), .str x.text, .at (.int .i64 x.num), .str x.unit, .at (.bool x.flag)]
mutual
def Zp:ze->List PV
 |⟨x_token,x_list⟩=>[.at (.int .u8 x_token.kind), .str x_token.text, .at (.int .i64 x_token.num), .str x_token.unit, .at (.bool x_token.flag), .sl (Bu x_list)]
def Bu:List ze->List (List PV)
 |[]=>[]
 |v::r=>Zp v::Bu r
end
theorem LB: ∀(l:List ze),Bu l=l.map Zp
 |[]=>by rw[Bu];rfl
 |v::r=>by rw[Bu,LB r];rfl
def Zu(x:Zd):List PV:=[.str x.name, .sl (x.value.map Zp), .at (.bool x.important)]
mutual
def zD:zo->List PV
 |⟨x_kind,x_name,x_num,x_decl,x_list⟩=>[.at (.int .u8 x_kind), .str x_name, .at (.int .i64 x_num), .str x_decl.name, .sl (x_decl.value.map Zp), .at (.bool x_decl.important), .sl (Jt x_list)]
def Jt:List zo->List (List PV)
 |[]=>[]
 |v::r=>zD v::Jt r
end
theorem jA: ∀(l:List zo),Jt l=l.map zD
 |[]=>by rw[Jt];rfl
 |v::r=>by rw[Jt,jA r];rfl
mutual
def zF:zK->List PV
 |⟨x_kind,x_selectors,x_decls,x_cond,x_names,x_rules⟩=>[.at (.int .u8 x_kind), .sl (x_selectors.map zm), .sl (x_decls.map Zu), .at (.int .u8 x_cond.kind), .str x_cond.name, .at (.int .i64 x_cond.num), .str x_cond.decl.name, .sl (x_cond.decl.value.map Zp), .at (.bool x_cond.decl.important), .sl (x_cond.list.map zD), .sl (x_names.map (fun y=>[.sl (y.map (fun y=>[.str y]))])), .sl (Vt x_rules)]
def Vt:List zK->List (List PV)
 |[]=>[]
 |v::r=>zF v::Vt r
end
theorem iA: ∀(l:List zK),Vt l=l.map zF
 |[]=>by rw[Vt];rfl
 |v::r=>by rw[Vt,iA r];rfl
def wo(x:ZI):List PV:=[.sl (x.rules.map zF)]
def Zk(x:Zr):List PV:=[.at (.int .i64 x.number), .at (.int .u8 x.origin), .str x.site, .sl (x.sheet.rules.map zF)]
def vo(x:Ze):List PV:=[.sl (x.sheets.map Zk), .at (.int .i64 x.next)]
def T9(x:zx):List PV:=[.sl (x.v.map Zp)]
def l5(x:zS):List PV:=[.at (.int .i64 x.depth), .at (.int .i64 x.tokens), .at (.bool x.bad)]
def Y5(x:Qp):List PV:=[.at (.int .u8 x.kind), .str x.name, .at (.int .u8 x.op), .str x.value, .at (.bool x.fold), .at (.int .i64 x.anb.a), .at (.int .i64 x.anb.b), .at (.bool x.of_)]
def S9(x:zV):List PV:=[.at (.int .i64 x.deep), .at (.bool x.has)]
def ziB(x:ZM):List PV:=[.at (.int .i64 x.x), .at (.int .i64 x.y), .at (.bool x.signed), .at (.int .u8 x.code)]
def zoz(x:zg):List PV:=[.at (.int .i64 x.deep), .at (.bool x.has)]
def znH(x:zt):List PV:=[.sl (x.v.map Zp), .at (.int .i64 x.at_)]
def R9(x:zq):List PV:=[.at (.int .i64 x.rules), .at (.int .i64 x.depth), .at (.bool x.bad)]
def zp2(x:zJ):List PV:=[.at (.int .i64 x.room), .at (.int .i64 x.constructs)]
def zoA(x:zb):List PV:=[.str x.s, .at (.int .i64 x.at_)]
theorem AO(x_lead:Int)(x_parts:List zI)(x_combs:List UInt8):zm ⟨x_lead,x_parts,x_combs⟩=[.at (.int .u8 x_lead), .sl (x_parts.map zU), .sl (x_combs.map (fun y=>[.at (.int .u8 y.toNat)]))]:=by simp only[zm,ZX,ZL,Z7]
theorem bO(x_tag:Str)(x_simples:List zw):zU ⟨x_tag,x_simples⟩=[.str x_tag, .sl (x_simples.map z8)]:=by simp only[zU,ZX,ZL,Z7]
theorem TN(x_kind:Int)(x_name:Str)(x_op:Int)(x_value:Str)(x_fold:Bool)(x_anb:VAnb)(x_of_:Bool)(x_list:List zf):z8 ⟨x_kind,x_name,x_op,x_value,x_fold,x_anb,x_of_,x_list⟩=[.at (.int .u8 x_kind), .str x_name, .at (.int .u8 x_op), .str x_value, .at (.bool x_fold), .at (.int .i64 x_anb.a), .at (.int .i64 x_anb.b), .at (.bool x_of_), .sl (x_list.map zm)]:=by simp only[z8,ZX,ZL,Z7]
theorem VM(x_token:zk)(x_list:List ze):Zp ⟨x_token,x_list⟩=[.at (.int .u8 x_token.kind), .str x_token.text, .at (.int .i64 x_token.num), .str x_token.unit, .at (.bool x_token.flag), .sl (x_list.map Zp)]:=by simp only[Zp,LB]
theorem oL(x_kind:Int)(x_name:Str)(x_num:Int)(x_decl:Zd)(x_list:List zo):zD ⟨x_kind,x_name,x_num,x_decl,x_list⟩=[.at (.int .u8 x_kind), .str x_name, .at (.int .i64 x_num), .str x_decl.name, .sl (x_decl.value.map Zp), .at (.bool x_decl.important), .sl (x_list.map zD)]:=by simp only[zD,jA]
theorem nL(x_kind:Int)(x_selectors:List zf)(x_decls:List Zd)(x_cond:zo)(x_names:List (List Str))(x_rules:List zK):zF ⟨x_kind,x_selectors,x_decls,x_cond,x_names,x_rules⟩=[.at (.int .u8 x_kind), .sl (x_selectors.map zm), .sl (x_decls.map Zu), .at (.int .u8 x_cond.kind), .str x_cond.name, .at (.int .i64 x_cond.num), .str x_cond.decl.name, .sl (x_cond.decl.value.map Zp), .at (.bool x_cond.decl.important), .sl (x_cond.list.map zD), .sl (x_names.map (fun y=>[.sl (y.map (fun y=>[.str y]))])), .sl (x_rules.map zF)]:=by simp only[zF,iA]
theorem U9(x:zf):zm x=[.at (.int .u8 x.lead), .sl (x.parts.map zU), .sl (x.combs.map (fun y=>[.at (.int .u8 y.toNat)]))]:=by cases x;exact AO ..
theorem zp1(x:zI):zU x=[.str x.tag, .sl (x.simples.map z8)]:=by cases x;exact bO ..
theorem D6(x:zw):z8 x=[.at (.int .u8 x.kind), .str x.name, .at (.int .u8 x.op), .str x.value, .at (.bool x.fold), .at (.int .i64 x.anb.a), .at (.int .i64 x.anb.b), .at (.bool x.of_), .sl (x.list.map zm)]:=by cases x;exact TN ..
theorem sZ(x:ze):Zp x=[.at (.int .u8 x.token.kind), .str x.token.text, .at (.int .i64 x.token.num), .str x.token.unit, .at (.bool x.token.flag), .sl (x.list.map Zp)]:=by cases x;exact VM ..
theorem WM(x:zo):zD x=[.at (.int .u8 x.kind), .str x.name, .at (.int .i64 x.num), .str x.decl.name, .sl (x.decl.value.map Zp), .at (.bool x.decl.important), .sl (x.list.map zD)]:=by cases x;exact oL ..
theorem GX(x:zK):zF x=[.at (.int .u8 x.kind), .sl (x.selectors.map zm), .sl (x.decls.map Zu), .at (.int .u8 x.cond.kind), .str x.cond.name, .at (.int .i64 x.cond.num), .str x.cond.decl.name, .sl (x.cond.decl.value.map Zp), .at (.bool x.cond.decl.important), .sl (x.cond.list.map zD), .sl (x.names.map (fun y=>[.sl (y.map (fun y=>[.str y]))])), .sl (x.rules.map zF)]:=by cases x;exact nL ..
def fC(n:Nat):(c:TC)->Ct c->List PV
 | .bool,(x:Bool)=>[.at (.bool x)]
 | .int_i32,(x:Int)=>[.at (.int .i32 x)]
 | .int_i64,(x:Int)=>[.at (.int .i64 x)]
 | .int_u32,(x:Int)=>[.at (.int .u32 x)]
 | .int_u64,(x:Int)=>[.at (.int .u64 x)]
 | .int_u8,(x:UInt8)=>[.at (.int .u8 x.toNat)]
 | .sl_105,(x:List zf)=>[.sl (x.map zm)]
 | .sl_109,(x:List zI)=>[.sl (x.map zU)]
 | .sl_114,(x:List zw)=>[.sl (x.map z8)]
 | .sl_129,(x:List zk)=>[.sl (x.map nK)]
 | .sl_131,(x:List ze)=>[.sl (x.map Zp)]
 | .sl_2,(x:List Int)=>[.sl (x.map (fun y=>[.at (.int .i64 y)]))]
 | .sl_3,(x:List Int)=>[.sl (x.map (fun y=>[.at (.int .i64 y)]))]
 | .sl_33,(x:List Zr)=>[.sl (x.map Zk)]
 | .sl_5,(x:List UInt8)=>[.sl (x.map (fun y=>[.at (.int .u8 y.toNat)]))]
 | .sl_66,(x:List (List ze))=>[.sl (x.map (fun y=>[.sl (y.map Zp)]))]
 | .sl_68,(x:List Zd)=>[.sl (x.map Zu)]
 | .sl_71,(x:List zo)=>[.sl (x.map zD)]
 | .sl_74,(x:List zK)=>[.sl (x.map zF)]
 | .sl_78,(x:List (List Str))=>[.sl (x.map (fun y=>[.sl (y.map (fun y=>[.str y]))]))]
 | .sl_9,(x:List Str)=>[.sl (x.map (fun y=>[.str y]))]
 | .st_VAnb,(x:VAnb)=>zIU x
 | .st_VComplex,(x:zf)=>zm x
 | .st_VCompound,(x:zI)=>zU x
 | .st_VCond,(x:zo)=>zD x
 | .st_VDecl,(x:Zd)=>Zu x
 | .st_VKept,(x:Zr)=>Zk x
 | .st_VRule,(x:zK)=>zF x
 | .st_VSheet,(x:ZI)=>wo x
 | .st_VSimple,(x:zw)=>z8 x
 | .st_VStore,(x:Ze)=>vo x
 | .st_VToken,(x:zk)=>nK x
 | .st_VValue,(x:ze)=>Zp x
 | .st_Vcond_reader,(x:zx)=>T9 x
 | .st_Vnest_found,(x:zS)=>l5 x
 | .st_Vref08_base,(x:Qp)=>Y5 x
 | .st_Vref08_place,(x:zV)=>S9 x
 | .st_Vruntime_boundsError,(x:ZM)=>ziB x
 | .st_Vseltext_place,(x:zg)=>zoz x
 | .st_Vseltext_reader,(x:zt)=>znH x
 | .st_Vsheet_found,(x:zq)=>R9 x
 | .st_Vsheet_parser,(x:zJ)=>zp2 x
 | .st_Vtoken_scanner,(x:zb)=>zoA x
 | .str,(x:Str)=>[.str x]
 | .other,_=>List.replicate n (.at (.slice none 0 0))
def eC(n:Nat):(c:TC)->Ct c->List (EV Cn)
 | .bool,(x:Bool)=>[.bool x]
 | .int_i32,(x:Int)=>[.int .i32 x]
 | .int_i64,(x:Int)=>[.int .i64 x]
 | .int_u32,(x:Int)=>[.int .u32 x]
 | .int_u64,(x:Int)=>[.int .u64 x]
 | .int_u8,(x:UInt8)=>[.int .u8 (x.toNat:Int)]
 | .sl_105,(x:List zf)=>[.sl 105 x]
 | .sl_109,(x:List zI)=>[.sl 109 x]
 | .sl_114,(x:List zw)=>[.sl 114 x]
 | .sl_129,(x:List zk)=>[.sl 129 x]
 | .sl_131,(x:List ze)=>[.sl 131 x]
 | .sl_2,(x:List Int)=>[.sl 2 x]
 | .sl_3,(x:List Int)=>[.sl 3 x]
 | .sl_33,(x:List Zr)=>[.sl 33 x]
 | .sl_5,(x:List UInt8)=>[.sl 5 x]
 | .sl_66,(x:List (List ze))=>[.sl 66 x]
 | .sl_68,(x:List Zd)=>[.sl 68 x]
 | .sl_71,(x:List zo)=>[.sl 71 x]
 | .sl_74,(x:List zK)=>[.sl 74 x]
 | .sl_78,(x:List (List Str))=>[.sl 78 x]
 | .sl_9,(x:List Str)=>[.sl 9 x]
 | .st_VAnb,(x:VAnb)=>[.int .i64 x.a, .int .i64 x.b]
 | .st_VComplex,(x:zf)=>[.int .u8 x.lead, .sl 109 x.parts, .sl 5 x.combs]
 | .st_VCompound,(x:zI)=>[.str x.tag, .sl 114 x.simples]
 | .st_VCond,(x:zo)=>[.int .u8 x.kind, .str x.name, .int .i64 x.num, .str x.decl.name, .sl 131 x.decl.value, .bool x.decl.important, .sl 71 x.list]
 | .st_VDecl,(x:Zd)=>[.str x.name, .sl 131 x.value, .bool x.important]
 | .st_VKept,(x:Zr)=>[.int .i64 x.number, .int .u8 x.origin, .str x.site, .sl 74 x.sheet.rules]
 | .st_VRule,(x:zK)=>[.int .u8 x.kind, .sl 105 x.selectors, .sl 68 x.decls, .int .u8 x.cond.kind, .str x.cond.name, .int .i64 x.cond.num, .str x.cond.decl.name, .sl 131 x.cond.decl.value, .bool x.cond.decl.important, .sl 71 x.cond.list, .sl 78 x.names, .sl 74 x.rules]
 | .st_VSheet,(x:ZI)=>[.sl 74 x.rules]
 | .st_VSimple,(x:zw)=>[.int .u8 x.kind, .str x.name, .int .u8 x.op, .str x.value, .bool x.fold, .int .i64 x.anb.a, .int .i64 x.anb.b, .bool x.of_, .sl 105 x.list]
 | .st_VStore,(x:Ze)=>[.sl 33 x.sheets, .int .i64 x.next]
 | .st_VToken,(x:zk)=>[.int .u8 x.kind, .str x.text, .int .i64 x.num, .str x.unit, .bool x.flag]
 | .st_VValue,(x:ze)=>[.int .u8 x.token.kind, .str x.token.text, .int .i64 x.token.num, .str x.token.unit, .bool x.token.flag, .sl 131 x.list]
 | .st_Vcond_reader,(x:zx)=>[.sl 131 x.v]
 | .st_Vnest_found,(x:zS)=>[.int .i64 x.depth, .int .i64 x.tokens, .bool x.bad]
 | .st_Vref08_base,(x:Qp)=>[.int .u8 x.kind, .str x.name, .int .u8 x.op, .str x.value, .bool x.fold, .int .i64 x.anb.a, .int .i64 x.anb.b, .bool x.of_]
 | .st_Vref08_place,(x:zV)=>[.int .i64 x.deep, .bool x.has]
 | .st_Vruntime_boundsError,(x:ZM)=>[.int .i64 x.x, .int .i64 x.y, .bool x.signed, .int .u8 x.code]
 | .st_Vseltext_place,(x:zg)=>[.int .i64 x.deep, .bool x.has]
 | .st_Vseltext_reader,(x:zt)=>[.sl 131 x.v, .int .i64 x.at_]
 | .st_Vsheet_found,(x:zq)=>[.int .i64 x.rules, .int .i64 x.depth, .bool x.bad]
 | .st_Vsheet_parser,(x:zJ)=>[.int .i64 x.room, .int .i64 x.constructs]
 | .st_Vtoken_scanner,(x:zb)=>[.str x.s, .int .i64 x.at_]
 | .str,(x:Str)=>[.str x]
 | .other,_=>List.replicate n .nil
def WE:EV Cn->Option Int
 | .int .i32 n=>some n
 |_=>none
def ZY:EV Cn->Option Int
 | .int .i64 n=>some n
 |_=>none
def VE:EV Cn->Option Int
 | .int .u32 n=>some n
 |_=>none
def UE:EV Cn->Option Int
 | .int .u64 n=>some n
 |_=>none
def Vg:EV Cn->Option Int
 | .int .u8 n=>some n
 |_=>none
def Gg:EV Cn->Option Bool
 | .bool b=>some b
 |_=>none
def dStr:EV Cn->Option Str
 | .str l=>some l
 |_=>none
def UI:EV Cn->Option (List Int)
 | .nil=>some []
 | .sl 2 l=>some l
 |_=>none
def SI:EV Cn->Option (List Int)
 | .nil=>some []
 | .sl 3 l=>some l
 |_=>none
def FD:EV Cn->Option (List UInt8)
 | .nil=>some []
 | .sl 5 l=>some l
 |_=>none
def RI:EV Cn->Option (List Str)
 | .nil=>some []
 | .sl 9 l=>some l
 |_=>none
def PD:EV Cn->Option (List Zr)
 | .nil=>some []
 | .sl 33 l=>some l
 |_=>none
def DJ:EV Cn->Option (List (List ze))
 | .nil=>some []
 | .sl 66 l=>some l
 |_=>none
def OD:EV Cn->Option (List Zd)
 | .nil=>some []
 | .sl 68 l=>some l
 |_=>none
def bv:EV Cn->Option (List zo)
 | .nil=>some []
 | .sl 71 l=>some l
 |_=>none
def Sn:EV Cn->Option (List zK)
 | .nil=>some []
 | .sl 74 l=>some l
 |_=>none
def ND:EV Cn->Option (List (List Str))
 | .nil=>some []
 | .sl 78 l=>some l
 |_=>none
def Yr:EV Cn->Option (List zf)
 | .nil=>some []
 | .sl 105 l=>some l
 |_=>none
def Uw:EV Cn->Option (List zI)
 | .nil=>some []
 | .sl 109 l=>some l
 |_=>none
def Tw:EV Cn->Option (List zw)
 | .nil=>some []
 | .sl 114 l=>some l
 |_=>none
def uJ:EV Cn->Option (List zk)
 | .nil=>some []
 | .sl 129 l=>some l
 |_=>none
def ui:EV Cn->Option (List ze)
 | .nil=>some []
 | .sl 131 l=>some l
 |_=>none
def mC:(c:TC)->List (EV Cn)->Option (Ct c)
 | .bool=>fun cs=>match cs with|[a0]=>(Gg a0).bind fun x0=>some x0|_=>none
 | .int_i32=>fun cs=>match cs with|[a0]=>(WE a0).bind fun x0=>some x0|_=>none
 | .int_i64=>fun cs=>match cs with|[a0]=>(ZY a0).bind fun x0=>some x0|_=>none
 | .int_u32=>fun cs=>match cs with|[a0]=>(VE a0).bind fun x0=>some x0|_=>none
 | .int_u64=>fun cs=>match cs with|[a0]=>(UE a0).bind fun x0=>some x0|_=>none
 | .int_u8=>fun cs=>match cs with|[a0]=>(Vg a0).bind Qc|_=>none
 | .sl_105=>fun cs=>match cs with|[a0]=>(Yr a0).bind fun x0=>some x0|_=>none
 | .sl_109=>fun cs=>match cs with|[a0]=>(Uw a0).bind fun x0=>some x0|_=>none
 | .sl_114=>fun cs=>match cs with|[a0]=>(Tw a0).bind fun x0=>some x0|_=>none
 | .sl_129=>fun cs=>match cs with|[a0]=>(uJ a0).bind fun x0=>some x0|_=>none
 | .sl_131=>fun cs=>match cs with|[a0]=>(ui a0).bind fun x0=>some x0|_=>none
 | .sl_2=>fun cs=>match cs with|[a0]=>(UI a0).bind fun x0=>some x0|_=>none
 | .sl_3=>fun cs=>match cs with|[a0]=>(SI a0).bind fun x0=>some x0|_=>none
 | .sl_33=>fun cs=>match cs with|[a0]=>(PD a0).bind fun x0=>some x0|_=>none
 | .sl_5=>fun cs=>match cs with|[a0]=>(FD a0).bind fun x0=>some x0|_=>none
 | .sl_66=>fun cs=>match cs with|[a0]=>(DJ a0).bind fun x0=>some x0|_=>none
 | .sl_68=>fun cs=>match cs with|[a0]=>(OD a0).bind fun x0=>some x0|_=>none
 | .sl_71=>fun cs=>match cs with|[a0]=>(bv a0).bind fun x0=>some x0|_=>none
 | .sl_74=>fun cs=>match cs with|[a0]=>(Sn a0).bind fun x0=>some x0|_=>none
 | .sl_78=>fun cs=>match cs with|[a0]=>(ND a0).bind fun x0=>some x0|_=>none
 | .sl_9=>fun cs=>match cs with|[a0]=>(RI a0).bind fun x0=>some x0|_=>none
 | .st_VAnb=>fun cs=>match cs with|[a0,a1]=>(ZY a0).bind fun x0=>(ZY a1).bind fun x1=>some (⟨x0,x1⟩:VAnb)|_=>none
 | .st_VComplex=>fun cs=>match cs with|[a0,a1,a2]=>(Vg a0).bind fun x0=>(Uw a1).bind fun x1=>(FD a2).bind fun x2=>some (⟨x0,x1,x2⟩:zf)|_=>none
 | .st_VCompound=>fun cs=>match cs with|[a0,a1]=>(dStr a0).bind fun x0=>(Tw a1).bind fun x1=>some (⟨x0,x1⟩:zI)|_=>none
 | .st_VCond=>fun cs=>match cs with|[a0,a1,a2,a3,a4,a5,a6]=>(Vg a0).bind fun x0=>(dStr a1).bind fun x1=>(ZY a2).bind fun x2=>(dStr a3).bind fun x3=>(ui a4).bind fun x4=>(Gg a5).bind fun x5=>(bv a6).bind fun x6=>some (⟨x0,x1,x2,(⟨x3,x4,x5⟩:Zd),x6⟩:zo)|_=>none
 | .st_VDecl=>fun cs=>match cs with|[a0,a1,a2]=>(dStr a0).bind fun x0=>(ui a1).bind fun x1=>(Gg a2).bind fun x2=>some (⟨x0,x1,x2⟩:Zd)|_=>none
 | .st_VKept=>fun cs=>match cs with|[a0,a1,a2,a3]=>(ZY a0).bind fun x0=>(Vg a1).bind fun x1=>(dStr a2).bind fun x2=>(Sn a3).bind fun x3=>some (⟨x0,x1,x2,(⟨x3⟩:ZI)⟩:Zr)|_=>none
 | .st_VRule=>fun cs=>match cs with|[a0,a1,a2,a3,a4,a5,a6,a7,a8,a9,a10,a11]=>(Vg a0).bind fun x0=>(Yr a1).bind fun x1=>(OD a2).bind fun x2=>(Vg a3).bind fun x3=>(dStr a4).bind fun x4=>(ZY a5).bind fun x5=>(dStr a6).bind fun x6=>(ui a7).bind fun x7=>(Gg a8).bind fun x8=>(bv a9).bind fun x9=>(ND a10).bind fun x10=>(Sn a11).bind fun x11=>some (⟨x0,x1,x2,(⟨x3,x4,x5,(⟨x6,x7,x8⟩:Zd),x9⟩:zo),x10,x11⟩:zK)|_=>none
 | .st_VSheet=>fun cs=>match cs with|[a0]=>(Sn a0).bind fun x0=>some (⟨x0⟩:ZI)|_=>none
 | .st_VSimple=>fun cs=>match cs with|[a0,a1,a2,a3,a4,a5,a6,a7,a8]=>(Vg a0).bind fun x0=>(dStr a1).bind fun x1=>(Vg a2).bind fun x2=>(dStr a3).bind fun x3=>(Gg a4).bind fun x4=>(ZY a5).bind fun x5=>(ZY a6).bind fun x6=>(Gg a7).bind fun x7=>(Yr a8).bind fun x8=>some (⟨x0,x1,x2,x3,x4,(⟨x5,x6⟩:VAnb),x7,x8⟩:zw)|_=>none
 | .st_VStore=>fun cs=>match cs with|[a0,a1]=>(PD a0).bind fun x0=>(ZY a1).bind fun x1=>some (⟨x0,x1⟩:Ze)|_=>none
 | .st_VToken=>fun cs=>match cs with|[a0,a1,a2,a3,a4]=>(Vg a0).bind fun x0=>(dStr a1).bind fun x1=>(ZY a2).bind fun x2=>(dStr a3).bind fun x3=>(Gg a4).bind fun x4=>some (⟨x0,x1,x2,x3,x4⟩:zk)|_=>none
 | .st_VValue=>fun cs=>match cs with|[a0,a1,a2,a3,a4,a5]=>(Vg a0).bind fun x0=>(dStr a1).bind fun x1=>(ZY a2).bind fun x2=>(dStr a3).bind fun x3=>(Gg a4).bind fun x4=>(ui a5).bind fun x5=>some (⟨(⟨x0,x1,x2,x3,x4⟩:zk),x5⟩:ze)|_=>none
 | .st_Vcond_reader=>fun cs=>match cs with|[a0]=>(ui a0).bind fun x0=>some (⟨x0⟩:zx)|_=>none
 | .st_Vnest_found=>fun cs=>match cs with|[a0,a1,a2]=>(ZY a0).bind fun x0=>(ZY a1).bind fun x1=>(Gg a2).bind fun x2=>some (⟨x0,x1,x2⟩:zS)|_=>none
 | .st_Vref08_base=>fun cs=>match cs with|[a0,a1,a2,a3,a4,a5,a6,a7]=>(Vg a0).bind fun x0=>(dStr a1).bind fun x1=>(Vg a2).bind fun x2=>(dStr a3).bind fun x3=>(Gg a4).bind fun x4=>(ZY a5).bind fun x5=>(ZY a6).bind fun x6=>(Gg a7).bind fun x7=>some (⟨x0,x1,x2,x3,x4,(⟨x5,x6⟩:VAnb),x7⟩:Qp)|_=>none
 | .st_Vref08_place=>fun cs=>match cs with|[a0,a1]=>(ZY a0).bind fun x0=>(Gg a1).bind fun x1=>some (⟨x0,x1⟩:zV)|_=>none
 | .st_Vruntime_boundsError=>fun cs=>match cs with|[a0,a1,a2,a3]=>(ZY a0).bind fun x0=>(ZY a1).bind fun x1=>(Gg a2).bind fun x2=>(Vg a3).bind fun x3=>some (⟨x0,x1,x2,x3⟩:ZM)|_=>none
 | .st_Vseltext_place=>fun cs=>match cs with|[a0,a1]=>(ZY a0).bind fun x0=>(Gg a1).bind fun x1=>some (⟨x0,x1⟩:zg)|_=>none
 | .st_Vseltext_reader=>fun cs=>match cs with|[a0,a1]=>(ui a0).bind fun x0=>(ZY a1).bind fun x1=>some (⟨x0,x1⟩:zt)|_=>none
 | .st_Vsheet_found=>fun cs=>match cs with|[a0,a1,a2]=>(ZY a0).bind fun x0=>(ZY a1).bind fun x1=>(Gg a2).bind fun x2=>some (⟨x0,x1,x2⟩:zq)|_=>none
 | .st_Vsheet_parser=>fun cs=>match cs with|[a0,a1]=>(ZY a0).bind fun x0=>(ZY a1).bind fun x1=>some (⟨x0,x1⟩:zJ)|_=>none
 | .st_Vtoken_scanner=>fun cs=>match cs with|[a0,a1]=>(dStr a0).bind fun x0=>(ZY a1).bind fun x1=>some (⟨x0,x1⟩:zb)|_=>none
 | .str=>fun cs=>match cs with|[a0]=>(dStr a0).bind fun x0=>some x0|_=>none
 | .other=>fun _=>none
def bC:(c:TC)->Option ((List UInt8->List (Ct c))×(List (Ct c)->List UInt8))
 | .int_u8=>some (fun l=>l,fun l=>l)
 |_=>none
noncomputable def I:Ip:=⟨Cn,fun t=>dC (tc t),fun t=>eC (Tryz.prog.cellsOf t) (tc t),fun t=>mC (tc t),fun t=>fC (Tryz.prog.cellsOf t) (tc t),fun t=>bC (tc t)⟩
theorem zMd:(tab.all fun p=>Nat.beq (Tryz.prog.cellsOf p.1) (size p.2))=true:=by kernel_rfl
theorem zIE(t:Nat)(h:tc t≠ .other):Tryz.prog.cellsOf t=size (tc t):=by
 unfold tc at h ⊢;cases hl:lk tab t with
 |none=>rw[hl]at h;exact absurd rfl h
 |some c=> simp only;exact Ja (Ib.1 zMd _ (Xf hl))
def Dec(a:EV Cn)(p:PV):Prop:=Xh (I:=I) a=true/\WkP (pvE I a) p
theorem decs{cs:List (EV Cn)}{ps:List PV}(h:All2 Dec cs ps):(∀v∈cs,Xh (I:=I) v=true)/\cs.length=ps.length/\ ∀(j:Nat) (a b:PV),(cs.map (pvE I))[j]? =some a->ps[j]? =some b->WkP a b:=by
 induction h with
 |nil=>exact⟨fun v hv=>(by cases hv),rfl,fun j a b ha=>(by cases ha)⟩
 |cons h1 _ ih=>
  refine⟨fun v hv=> ?_,congrArg Nat.succ ih.2.1,fun j a b ha hb=> ?_⟩
  ·rcases ma.1 hv with rfl|hv
   ·exact h1.1
   ·exact ih.1 v hv
  ·cases j with
   |zero=>injection ha with ha;injection hb with hb;rw[<-ha,<-hb];exact h1.2
   |succ j=>exact ih.2.2 j a b ha hb
theorem zDy{a:EV Cn}{x:Int}(h:WE a=some x):Dec a (.at (.int .i32 x)):=by
 unfold WE at h;split at h
 ·cases h;exact⟨rfl, .refl _⟩
 ·cases h
theorem Zq{a:EV Cn}{x:Int}(h:ZY a=some x):Dec a (.at (.int .i64 x)):=by
 unfold ZY at h;split at h
 ·cases h;exact⟨rfl, .refl _⟩
 ·cases h
theorem zDz{a:EV Cn}{x:Int}(h:VE a=some x):Dec a (.at (.int .u32 x)):=by
 unfold VE at h;split at h
 ·cases h;exact⟨rfl, .refl _⟩
 ·cases h
theorem zDA{a:EV Cn}{x:Int}(h:UE a=some x):Dec a (.at (.int .u64 x)):=by
 unfold UE at h;split at h
 ·cases h;exact⟨rfl, .refl _⟩
 ·cases h
theorem Qo{a:EV Cn}{x:Int}(h:Vg a=some x):Dec a (.at (.int .u8 x)):=by
 unfold Vg at h;split at h
 ·cases h;exact⟨rfl, .refl _⟩
 ·cases h
theorem ag{a:EV Cn}{x:Bool}(h:Gg a=some x):Dec a (.at (.bool x)):=by
 unfold Gg at h;split at h
 ·cases h;exact⟨rfl, .refl _⟩
 ·cases h
theorem Jg{a:EV Cn}{x:Str}(h:dStr a=some x):Dec a (.str x):=by
 unfold dStr at h;split at h
 ·cases h;exact⟨rfl, .refl _⟩
 ·cases h
theorem zIK{a:EV Cn}{x:List Int}(h:UI a=some x):Dec a (.sl (x.map (I.full 2))):=by
 unfold UI at h;split at h
 ·cases h;exact⟨rfl, .nil⟩
 ·cases h;exact⟨rfl, .refl _⟩
 ·cases h
theorem zIL{a:EV Cn}{x:List Int}(h:SI a=some x):Dec a (.sl (x.map (I.full 3))):=by
 unfold SI at h;split at h
 ·cases h;exact⟨rfl, .nil⟩
 ·cases h;exact⟨rfl, .refl _⟩
 ·cases h
theorem dS{a:EV Cn}{x:List UInt8}(h:FD a=some x):Dec a (.sl (x.map (I.full 5))):=by
 unfold FD at h;split at h
 ·cases h;exact⟨rfl, .nil⟩
 ·cases h;exact⟨rfl, .refl _⟩
 ·cases h
theorem zIN{a:EV Cn}{x:List Str}(h:RI a=some x):Dec a (.sl (x.map (I.full 9))):=by
 unfold RI at h;split at h
 ·cases h;exact⟨rfl, .nil⟩
 ·cases h;exact⟨rfl, .refl _⟩
 ·cases h
theorem iU{a:EV Cn}{x:List Zr}(h:PD a=some x):Dec a (.sl (x.map (I.full 33))):=by
 unfold PD at h;split at h
 ·cases h;exact⟨rfl, .nil⟩
 ·cases h;exact⟨rfl, .refl _⟩
 ·cases h
theorem zGy{a:EV Cn}{x:List (List ze)}(h:DJ a=some x):Dec a (.sl (x.map (I.full 66))):=by
 unfold DJ at h;split at h
 ·cases h;exact⟨rfl, .nil⟩
 ·cases h;exact⟨rfl, .refl _⟩
 ·cases h
theorem gU{a:EV Cn}{x:List Zd}(h:OD a=some x):Dec a (.sl (x.map (I.full 68))):=by
 unfold OD at h;split at h
 ·cases h;exact⟨rfl, .nil⟩
 ·cases h;exact⟨rfl, .refl _⟩
 ·cases h
theorem yE{a:EV Cn}{x:List zo}(h:bv a=some x):Dec a (.sl (x.map (I.full 71))):=by
 unfold bv at h;split at h
 ·cases h;exact⟨rfl, .nil⟩
 ·cases h;exact⟨rfl, .refl _⟩
 ·cases h
theorem Ux{a:EV Cn}{x:List zK}(h:Sn a=some x):Dec a (.sl (x.map (I.full 74))):=by
 unfold Sn at h;split at h
 ·cases h;exact⟨rfl, .nil⟩
 ·cases h;exact⟨rfl, .refl _⟩
 ·cases h
theorem fU{a:EV Cn}{x:List (List Str)}(h:ND a=some x):Dec a (.sl (x.map (I.full 78))):=by
 unfold ND at h;split at h
 ·cases h;exact⟨rfl, .nil⟩
 ·cases h;exact⟨rfl, .refl _⟩
 ·cases h
theorem fF{a:EV Cn}{x:List zf}(h:Yr a=some x):Dec a (.sl (x.map (I.full 105))):=by
 unfold Yr at h;split at h
 ·cases h;exact⟨rfl, .nil⟩
 ·cases h;exact⟨rfl, .refl _⟩
 ·cases h
theorem pK{a:EV Cn}{x:List zI}(h:Uw a=some x):Dec a (.sl (x.map (I.full 109))):=by
 unfold Uw at h;split at h
 ·cases h;exact⟨rfl, .nil⟩
 ·cases h;exact⟨rfl, .refl _⟩
 ·cases h
theorem oK{a:EV Cn}{x:List zw}(h:Tw a=some x):Dec a (.sl (x.map (I.full 114))):=by
 unfold Tw at h;split at h
 ·cases h;exact⟨rfl, .nil⟩
 ·cases h;exact⟨rfl, .refl _⟩
 ·cases h
theorem zFj{a:EV Cn}{x:List zk}(h:uJ a=some x):Dec a (.sl (x.map (I.full 129))):=by
 unfold uJ at h;split at h
 ·cases h;exact⟨rfl, .nil⟩
 ·cases h;exact⟨rfl, .refl _⟩
 ·cases h
theorem jl{a:EV Cn}{x:List ze}(h:ui a=some x):Dec a (.sl (x.map (I.full 131))):=by
 unfold ui at h;split at h
 ·cases h;exact⟨rfl, .nil⟩
 ·cases h;exact⟨rfl, .refl _⟩
 ·cases h
theorem zKX(n:Nat): ∀(c:TC) (cs:List (EV Cn)) (x:Ct c),mC c cs=some x->All2 Dec cs (fC n c x)
 | .bool,cs,x,h=>by
  simp only[mC]at h;split at h
  ·obtain⟨x0,h0,h⟩:=Ba.1 h;injection h with h;subst h;exact .cons (ag h0) .nil
  ·cases h
 | .int_i32,cs,x,h=>by
  simp only[mC]at h;split at h
  ·obtain⟨x0,h0,h⟩:=Ba.1 h;injection h with h;subst h;exact .cons (zDy h0) .nil
  ·cases h
 | .int_i64,cs,x,h=>by
  simp only[mC]at h;split at h
  ·obtain⟨x0,h0,h⟩:=Ba.1 h;injection h with h;subst h;exact .cons (Zq h0) .nil
  ·cases h
 | .int_u32,cs,x,h=>by
  simp only[mC]at h;split at h
  ·obtain⟨x0,h0,h⟩:=Ba.1 h;injection h with h;subst h;exact .cons (zDz h0) .nil
  ·cases h
 | .int_u64,cs,x,h=>by
  simp only[mC]at h;split at h
  ·obtain⟨x0,h0,h⟩:=Ba.1 h;injection h with h;subst h;exact .cons (zDA h0) .nil
  ·cases h
 | .int_u8,cs,x,h=>by
  simp only[mC]at h;split at h
  ·obtain⟨x0,h0,h⟩:=Ba.1 h;have:=zGd h;subst this;exact .cons (Qo h0) .nil
  ·cases h
 | .sl_105,cs,x,h=>by
  simp only[mC]at h;split at h
  ·obtain⟨x0,h0,h⟩:=Ba.1 h;injection h with h;subst h;exact .cons (fF h0) .nil
  ·cases h
 | .sl_109,cs,x,h=>by
  simp only[mC]at h;split at h
  ·obtain⟨x0,h0,h⟩:=Ba.1 h;injection h with h;subst h;exact .cons (pK h0) .nil
  ·cases h
 | .sl_114,cs,x,h=>by
  simp only[mC]at h;split at h
  ·obtain⟨x0,h0,h⟩:=Ba.1 h;injection h with h;subst h;exact .cons (oK h0) .nil
  ·cases h
 | .sl_129,cs,x,h=>by
  simp only[mC]at h;split at h
  ·obtain⟨x0,h0,h⟩:=Ba.1 h;injection h with h;subst h;exact .cons (zFj h0) .nil
  ·cases h
 | .sl_131,cs,x,h=>by
  simp only[mC]at h;split at h
  ·obtain⟨x0,h0,h⟩:=Ba.1 h;injection h with h;subst h;exact .cons (jl h0) .nil
  ·cases h
 | .sl_2,cs,x,h=>by
  simp only[mC]at h;split at h
  ·obtain⟨x0,h0,h⟩:=Ba.1 h;injection h with h;subst h;exact .cons (zIK h0) .nil
  ·cases h
 | .sl_3,cs,x,h=>by
  simp only[mC]at h;split at h
  ·obtain⟨x0,h0,h⟩:=Ba.1 h;injection h with h;subst h;exact .cons (zIL h0) .nil
  ·cases h
 | .sl_33,cs,x,h=>by
  simp only[mC]at h;split at h
  ·obtain⟨x0,h0,h⟩:=Ba.1 h;injection h with h;subst h;exact .cons (iU h0) .nil
  ·cases h
 | .sl_5,cs,x,h=>by
  simp only[mC]at h;split at h
  ·obtain⟨x0,h0,h⟩:=Ba.1 h;injection h with h;subst h;exact .cons (dS h0) .nil
  ·cases h
 | .sl_66,cs,x,h=>by
  simp only[mC]at h;split at h
  ·obtain⟨x0,h0,h⟩:=Ba.1 h;injection h with h;subst h;exact .cons (zGy h0) .nil
  ·cases h
 | .sl_68,cs,x,h=>by
  simp only[mC]at h;split at h
  ·obtain⟨x0,h0,h⟩:=Ba.1 h;injection h with h;subst h;exact .cons (gU h0) .nil
  ·cases h
 | .sl_71,cs,x,h=>by
  simp only[mC]at h;split at h
  ·obtain⟨x0,h0,h⟩:=Ba.1 h;injection h with h;subst h;exact .cons (yE h0) .nil
  ·cases h
 | .sl_74,cs,x,h=>by
  simp only[mC]at h;split at h
  ·obtain⟨x0,h0,h⟩:=Ba.1 h;injection h with h;subst h;exact .cons (Ux h0) .nil
  ·cases h
 | .sl_78,cs,x,h=>by
  simp only[mC]at h;split at h
  ·obtain⟨x0,h0,h⟩:=Ba.1 h;injection h with h;subst h;exact .cons (fU h0) .nil
  ·cases h
 | .sl_9,cs,x,h=>by
  simp only[mC]at h;split at h
  ·obtain⟨x0,h0,h⟩:=Ba.1 h;injection h with h;subst h;exact .cons (zIN h0) .nil
  ·cases h
 | .st_VAnb,cs,x,h=>by
  simp only[mC]at h;split at h
  ·obtain⟨x0,h0,h⟩:=Ba.1 h;obtain⟨x1,h1,h⟩:=Ba.1 h;injection h with h;subst h;exact .cons (Zq h0) (.cons (Zq h1) .nil)
  ·cases h
 | .st_VComplex,cs,x,h=>by
  simp only[mC]at h;split at h
  ·obtain⟨x0,h0,h⟩:=Ba.1 h;obtain⟨x1,h1,h⟩:=Ba.1 h;obtain⟨x2,h2,h⟩:=Ba.1 h;injection h with h;subst h;show All2 Dec _ (zm _);simp only[zm,ZX,ZL,Z7];exact .cons (Qo h0) (.cons (pK h1) (.cons (dS h2) .nil))
  ·cases h
 | .st_VCompound,cs,x,h=>by
  simp only[mC]at h;split at h
  ·obtain⟨x0,h0,h⟩:=Ba.1 h;obtain⟨x1,h1,h⟩:=Ba.1 h;injection h with h;subst h;show All2 Dec _ (zU _);simp only[zU,ZX,ZL,Z7];exact .cons (Jg h0) (.cons (oK h1) .nil)
  ·cases h
 | .st_VCond,cs,x,h=>by
  simp only[mC]at h;split at h
  ·obtain⟨x0,h0,h⟩:=Ba.1 h;obtain⟨x1,h1,h⟩:=Ba.1 h;obtain⟨x2,h2,h⟩:=Ba.1 h;obtain⟨x3,h3,h⟩:=Ba.1 h;obtain⟨x4,h4,h⟩:=Ba.1 h;obtain⟨x5,h5,h⟩:=Ba.1 h;obtain⟨x6,h6,h⟩:=Ba.1 h;injection h with h;subst h;show All2 Dec _ (zD _);simp only[zD,jA];exact .cons (Qo h0) (.cons (Jg h1) (.cons (Zq h2) (.cons (Jg h3) (.cons (jl h4) (.cons (ag h5) (.cons (yE h6) .nil))))))
  ·cases h
 | .st_VDecl,cs,x,h=>by
  simp only[mC]at h;split at h
  ·obtain⟨x0,h0,h⟩:=Ba.1 h;obtain⟨x1,h1,h⟩:=Ba.1 h;obtain⟨x2,h2,h⟩:=Ba.1 h;injection h with h;subst h;exact .cons (Jg h0) (.cons (jl h1) (.cons (ag h2) .nil))
  ·cases h
 | .st_VKept,cs,x,h=>by
  simp only[mC]at h;split at h
  ·obtain⟨x0,h0,h⟩:=Ba.1 h;obtain⟨x1,h1,h⟩:=Ba.1 h;obtain⟨x2,h2,h⟩:=Ba.1 h;obtain⟨x3,h3,h⟩:=Ba.1 h;injection h with h;subst h;exact .cons (Zq h0) (.cons (Qo h1) (.cons (Jg h2) (.cons (Ux h3) .nil)))
  ·cases h
 | .st_VRule,cs,x,h=>by
  simp only[mC]at h;split at h
  ·obtain⟨x0,h0,h⟩:=Ba.1 h;obtain⟨x1,h1,h⟩:=Ba.1 h;obtain⟨x2,h2,h⟩:=Ba.1 h;obtain⟨x3,h3,h⟩:=Ba.1 h;obtain⟨x4,h4,h⟩:=Ba.1 h;obtain⟨x5,h5,h⟩:=Ba.1 h;obtain⟨x6,h6,h⟩:=Ba.1 h;obtain⟨x7,h7,h⟩:=Ba.1 h;obtain⟨x8,h8,h⟩:=Ba.1 h;obtain⟨x9,h9,h⟩:=Ba.1 h;obtain⟨x10,h10,h⟩:=Ba.1 h;obtain⟨x11,h11,h⟩:=Ba.1 h;injection h with h;subst h;show All2 Dec _ (zF _);simp only[zF,iA];exact .cons (Qo h0) (.cons (fF h1) (.cons (gU h2) (.cons (Qo h3) (.cons (Jg h4) (.cons (Zq h5) (.cons (Jg h6) (.cons (jl h7) (.cons (ag h8) (.cons (yE h9) (.cons (fU h10) (.cons (Ux h11) .nil)))))))))))
  ·cases h
 | .st_VSheet,cs,x,h=>by
  simp only[mC]at h;split at h
  ·obtain⟨x0,h0,h⟩:=Ba.1 h;injection h with h;subst h;exact .cons (Ux h0) .nil
  ·cases h
 | .st_VSimple,cs,x,h=>by
  simp only[mC]at h;split at h
  ·obtain⟨x0,h0,h⟩:=Ba.1 h;obtain⟨x1,h1,h⟩:=Ba.1 h;obtain⟨x2,h2,h⟩:=Ba.1 h;obtain⟨x3,h3,h⟩:=Ba.1 h;obtain⟨x4,h4,h⟩:=Ba.1 h;obtain⟨x5,h5,h⟩:=Ba.1 h;obtain⟨x6,h6,h⟩:=Ba.1 h;obtain⟨x7,h7,h⟩:=Ba.1 h;obtain⟨x8,h8,h⟩:=Ba.1 h;injection h with h;subst h;show All2 Dec _ (z8 _);simp only[z8,ZX,ZL,Z7];exact .cons (Qo h0) (.cons (Jg h1) (.cons (Qo h2) (.cons (Jg h3) (.cons (ag h4) (.cons (Zq h5) (.cons (Zq h6) (.cons (ag h7) (.cons (fF h8) .nil))))))))
  ·cases h
 | .st_VStore,cs,x,h=>by
  simp only[mC]at h;split at h
  ·obtain⟨x0,h0,h⟩:=Ba.1 h;obtain⟨x1,h1,h⟩:=Ba.1 h;injection h with h;subst h;exact .cons (iU h0) (.cons (Zq h1) .nil)
  ·cases h
 | .st_VToken,cs,x,h=>by
  simp only[mC]at h;split at h
  ·obtain⟨x0,h0,h⟩:=Ba.1 h;obtain⟨x1,h1,h⟩:=Ba.1 h;obtain⟨x2,h2,h⟩:=Ba.1 h;obtain⟨x3,h3,h⟩:=Ba.1 h;obtain⟨x4,h4,h⟩:=Ba.1 h;injection h with h;subst h;exact .cons (Qo h0) (.cons (Jg h1) (.cons (Zq h2) (.cons (Jg h3) (.cons (ag h4) .nil))))
  ·cases h
 | .st_VValue,cs,x,h=>by
  simp only[mC]at h;split at h
  ·obtain⟨x0,h0,h⟩:=Ba.1 h;obtain⟨x1,h1,h⟩:=Ba.1 h;obtain⟨x2,h2,h⟩:=Ba.1 h;obtain⟨x3,h3,h⟩:=Ba.1 h;obtain⟨x4,h4,h⟩:=Ba.1 h;obtain⟨x5,h5,h⟩:=Ba.1 h;injection h with h;subst h;show All2 Dec _ (Zp _);simp only[Zp,LB];exact .cons (Qo h0) (.cons (Jg h1) (.cons (Zq h2) (.cons (Jg h3) (.cons (ag h4) (.cons (jl h5) .nil)))))
  ·cases h
 | .st_Vcond_reader,cs,x,h=>by
  simp only[mC]at h;split at h
  ·obtain⟨x0,h0,h⟩:=Ba.1 h;injection h with h;subst h;exact .cons (jl h0) .nil
  ·cases h
 | .st_Vnest_found,cs,x,h=>by
  simp only[mC]at h;split at h
  ·obtain⟨x0,h0,h⟩:=Ba.1 h;obtain⟨x1,h1,h⟩:=Ba.1 h;obtain⟨x2,h2,h⟩:=Ba.1 h;injection h with h;subst h;exact .cons (Zq h0) (.cons (Zq h1) (.cons (ag h2) .nil))
  ·cases h
 | .st_Vref08_base,cs,x,h=>by
  simp only[mC]at h;split at h
  ·obtain⟨x0,h0,h⟩:=Ba.1 h;obtain⟨x1,h1,h⟩:=Ba.1 h;obtain⟨x2,h2,h⟩:=Ba.1 h;obtain⟨x3,h3,h⟩:=Ba.1 h;obtain⟨x4,h4,h⟩:=Ba.1 h;obtain⟨x5,h5,h⟩:=Ba.1 h;obtain⟨x6,h6,h⟩:=Ba.1 h;obtain⟨x7,h7,h⟩:=Ba.1 h;injection h with h;subst h;exact .cons (Qo h0) (.cons (Jg h1) (.cons (Qo h2) (.cons (Jg h3) (.cons (ag h4) (.cons (Zq h5) (.cons (Zq h6) (.cons (ag h7) .nil)))))))
  ·cases h
 | .st_Vref08_place,cs,x,h=>by
  simp only[mC]at h;split at h
  ·obtain⟨x0,h0,h⟩:=Ba.1 h;obtain⟨x1,h1,h⟩:=Ba.1 h;injection h with h;subst h;exact .cons (Zq h0) (.cons (ag h1) .nil)
  ·cases h
 | .st_Vruntime_boundsError,cs,x,h=>by
  simp only[mC]at h;split at h
  ·obtain⟨x0,h0,h⟩:=Ba.1 h;obtain⟨x1,h1,h⟩:=Ba.1 h;obtain⟨x2,h2,h⟩:=Ba.1 h;obtain⟨x3,h3,h⟩:=Ba.1 h;injection h with h;subst h;exact .cons (Zq h0) (.cons (Zq h1) (.cons (ag h2) (.cons (Qo h3) .nil)))
  ·cases h
 | .st_Vseltext_place,cs,x,h=>by
  simp only[mC]at h;split at h
  ·obtain⟨x0,h0,h⟩:=Ba.1 h;obtain⟨x1,h1,h⟩:=Ba.1 h;injection h with h;subst h;exact .cons (Zq h0) (.cons (ag h1) .nil)
  ·cases h
 | .st_Vseltext_reader,cs,x,h=>by
  simp only[mC]at h;split at h
  ·obtain⟨x0,h0,h⟩:=Ba.1 h;obtain⟨x1,h1,h⟩:=Ba.1 h;injection h with h;subst h;exact .cons (jl h0) (.cons (Zq h1) .nil)
  ·cases h
 | .st_Vsheet_found,cs,x,h=>by
  simp only[mC]at h;split at h
  ·obtain⟨x0,h0,h⟩:=Ba.1 h;obtain⟨x1,h1,h⟩:=Ba.1 h;obtain⟨x2,h2,h⟩:=Ba.1 h;injection h with h;subst h;exact .cons (Zq h0) (.cons (Zq h1) (.cons (ag h2) .nil))
  ·cases h
 | .st_Vsheet_parser,cs,x,h=>by
  simp only[mC]at h;split at h
  ·obtain⟨x0,h0,h⟩:=Ba.1 h;obtain⟨x1,h1,h⟩:=Ba.1 h;injection h with h;subst h;exact .cons (Zq h0) (.cons (Zq h1) .nil)
  ·cases h
 | .st_Vtoken_scanner,cs,x,h=>by
  simp only[mC]at h;split at h
  ·obtain⟨x0,h0,h⟩:=Ba.1 h;obtain⟨x1,h1,h⟩:=Ba.1 h;injection h with h;subst h;exact .cons (Jg h0) (.cons (Zq h1) .nil)
  ·cases h
 | .str,cs,x,h=>by
  simp only[mC]at h;split at h
  ·obtain⟨x0,h0,h⟩:=Ba.1 h;injection h with h;subst h;exact .cons (Jg h0) .nil
  ·cases h
 | .other,cs,x,h=>by cases h
theorem fe(n:Nat): ∀(c:TC) (x:Ct c),fC n c x=(eC n c x).map (pvE I)
 | .bool,x=>rfl
 | .int_i32,x=>rfl
 | .int_i64,x=>rfl
 | .int_u32,x=>rfl
 | .int_u64,x=>rfl
 | .int_u8,x=>rfl
 | .sl_105,x=>rfl
 | .sl_109,x=>rfl
 | .sl_114,x=>rfl
 | .sl_129,x=>rfl
 | .sl_131,x=>rfl
 | .sl_2,x=>rfl
 | .sl_3,x=>rfl
 | .sl_33,x=>rfl
 | .sl_5,x=>rfl
 | .sl_66,x=>rfl
 | .sl_68,x=>rfl
 | .sl_71,x=>rfl
 | .sl_74,x=>rfl
 | .sl_78,x=>rfl
 | .sl_9,x=>rfl
 | .st_VAnb,x=>rfl
 | .st_VComplex,(x:zf)=>by obtain⟨x_lead,x_parts,x_combs⟩:=x;show zm _=_;simp only[zm,ZX,ZL,Z7];rfl
 | .st_VCompound,(x:zI)=>by obtain⟨x_tag,x_simples⟩:=x;show zU _=_;simp only[zU,ZX,ZL,Z7];rfl
 | .st_VCond,(x:zo)=>by obtain⟨x_kind,x_name,x_num,x_decl,x_list⟩:=x;show zD _=_;simp only[zD,jA];rfl
 | .st_VDecl,x=>rfl
 | .st_VKept,x=>rfl
 | .st_VRule,(x:zK)=>by obtain⟨x_kind,x_selectors,x_decls,x_cond,x_names,x_rules⟩:=x;show zF _=_;simp only[zF,iA];rfl
 | .st_VSheet,x=>rfl
 | .st_VSimple,(x:zw)=>by obtain⟨x_kind,x_name,x_op,x_value,x_fold,x_anb,x_of_,x_list⟩:=x;show z8 _=_;simp only[z8,ZX,ZL,Z7];rfl
 | .st_VStore,x=>rfl
 | .st_VToken,x=>rfl
 | .st_VValue,(x:ze)=>by obtain⟨x_token,x_list⟩:=x;show Zp _=_;simp only[Zp,LB];rfl
 | .st_Vcond_reader,x=>rfl
 | .st_Vnest_found,x=>rfl
 | .st_Vref08_base,x=>rfl
 | .st_Vref08_place,x=>rfl
 | .st_Vruntime_boundsError,x=>rfl
 | .st_Vseltext_place,x=>rfl
 | .st_Vseltext_reader,x=>rfl
 | .st_Vsheet_found,x=>rfl
 | .st_Vsheet_parser,x=>rfl
 | .st_Vtoken_scanner,x=>rfl
 | .str,x=>rfl
 | .other,x=>by show List.replicate n (PV.at (Value.slice none 0 0))=(List.replicate n EV.nil).map (pvE I);rw[List.map_replicate];rfl
theorem zLB(n:Nat)(c:TC)(x:Ct c)(h:c≠ .other->n=size c):(eC n c x).length=n:=by
 cases c
 case other=>simp[eC]
 all_goals (rw[h (by simp)];rfl)
theorem zKo(n:Nat): ∀(c:TC) (x:Ct c),(eC n c x).all (Xh (I:=I))=true
 | .bool,x=>rfl
 | .int_i32,x=>rfl
 | .int_i64,x=>rfl
 | .int_u32,x=>rfl
 | .int_u64,x=>rfl
 | .int_u8,x=>rfl
 | .sl_105,x=>rfl
 | .sl_109,x=>rfl
 | .sl_114,x=>rfl
 | .sl_129,x=>rfl
 | .sl_131,x=>rfl
 | .sl_2,x=>rfl
 | .sl_3,x=>rfl
 | .sl_33,x=>rfl
 | .sl_5,x=>rfl
 | .sl_66,x=>rfl
 | .sl_68,x=>rfl
 | .sl_71,x=>rfl
 | .sl_74,x=>rfl
 | .sl_78,x=>rfl
 | .sl_9,x=>rfl
 | .st_VAnb,x=>rfl
 | .st_VComplex,x=>rfl
 | .st_VCompound,x=>rfl
 | .st_VCond,x=>rfl
 | .st_VDecl,x=>rfl
 | .st_VKept,x=>rfl
 | .st_VRule,x=>rfl
 | .st_VSheet,x=>rfl
 | .st_VSimple,x=>rfl
 | .st_VStore,x=>rfl
 | .st_VToken,x=>rfl
 | .st_VValue,x=>rfl
 | .st_Vcond_reader,x=>rfl
 | .st_Vnest_found,x=>rfl
 | .st_Vref08_base,x=>rfl
 | .st_Vref08_place,x=>rfl
 | .st_Vruntime_boundsError,x=>rfl
 | .st_Vseltext_place,x=>rfl
 | .st_Vseltext_reader,x=>rfl
 | .st_Vsheet_found,x=>rfl
 | .st_Vsheet_parser,x=>rfl
 | .st_Vtoken_scanner,x=>rfl
 | .str,x=>rfl
 | .other,x=>by show(List.replicate n EV.nil).all (Xh (I:=I))=true;rw[Ib];intro v hv;rw[(List.mem_replicate.1 hv).2];rfl
theorem zMe:(tab.all fun p=>match p.2 with| .int_u8=>(match kdOf Tryz.prog p.1 with| .int .u8=>true|_=>false)|_=>true)=true:=by kernel_rfl
theorem zMk(t:Nat)(h:tc t= .int_u8):kdOf Tryz.prog t= .int .u8:=by
 unfold tc at h;cases hl:lk tab t with
 |none=>rw[hl]at h;cases h
 |some c=>
  rw[hl]at h;have h:c= .int_u8:=h;subst h;have:=Ib.1 zMe _ (Xf hl);simp only at this;split at this
  ·assumption
  ·cases this
theorem zJ8(n:Nat): ∀(c:TC) (p:(List UInt8->List (Ct c))×(List (Ct c)->List UInt8)),bC c=some p->(∀l,(p.1 l).map (fC n c)=l.map fun b=>[PV.at (.int .u8 b.toNat)])/\(∀l,l.map (fC n c)=(p.2 l).map fun b=>[PV.at (.int .u8 b.toNat)])/\c= .int_u8:=by
 intro c p h;cases c
 case int_u8=>cases h;exact⟨fun l=>rfl,fun l=>rfl,rfl⟩
 all_goals cases h
theorem zLx(t:Nat)(p:(List UInt8->List (I.C t))×(List (I.C t)->List UInt8))(h:I.byt t=some p):(∀l,(p.1 l).map (I.full t)=l.map fun b=>[PV.at (.int .u8 b.toNat)])/\(∀l,l.map (I.full t)=(p.2 l).map fun b=>[PV.at (.int .u8 b.toNat)])/\kdOf Tryz.prog t= .int .u8:=by obtain⟨h1,h2,h3⟩:=zJ8 (Tryz.prog.cellsOf t) (tc t) p h;exact⟨h1,h2,zMk t h3⟩
theorem ipOK:IpOK Tryz.prog I where
 len:=fun t x=>by show(fC _ _ x).length=_;exact(congrArg List.length (fe _ (tc t) x)).trans ((Va ..).trans (zLB _ (tc t) x (zIE t)))
 exp:=fun t x=>fe _ _ x
 pur:=fun t x v hv=>Ib.1 (zKo _ _ x) v hv
 made:=fun t cs x h=>decs (zKX _ _ cs x h)
 byt:=zLx
noncomputable def T:TT:=[(2,ti Tryz.prog 2),(3,ti Tryz.prog 3),(4,ti Tryz.prog 4),(5,ti Tryz.prog 5),(6,ti Tryz.prog 6),(7,ti Tryz.prog 7),(9,ti Tryz.prog 9),(11,ti Tryz.prog 11),(21,ti Tryz.prog 21),(22,ti Tryz.prog 22),(24,ti Tryz.prog 24),(25,ti Tryz.prog 25),(27,ti Tryz.prog 27),(33,ti Tryz.prog 33),(34,ti Tryz.prog 34),(62,ti Tryz.prog 62),(64,ti Tryz.prog 64),(65,ti Tryz.prog 65),(66,ti Tryz.prog 66),(68,ti Tryz.prog 68),(69,ti Tryz.prog 69),(71,ti Tryz.prog 71),(72,ti Tryz.prog 72),(74,ti Tryz.prog 74),(78,ti Tryz.prog 78),(88,ti Tryz.prog 88),(100,ti Tryz.prog 100),(102,ti Tryz.prog 102),(103,ti Tryz.prog 103),(105,ti Tryz.prog 105),(107,ti Tryz.prog 107),(109,ti Tryz.prog 109),(112,ti Tryz.prog 112),(114,ti Tryz.prog 114),(120,ti Tryz.prog 120),(126,ti Tryz.prog 126),(129,ti Tryz.prog 129),(131,ti Tryz.prog 131),(145,ti Tryz.prog 145),(150,ti Tryz.prog 150),(155,ti Tryz.prog 155),(169,ti Tryz.prog 169),(173,ti Tryz.prog 173),(184,ti Tryz.prog 184),(189,ti Tryz.prog 189),(191,ti Tryz.prog 191),(211,ti Tryz.prog 211),(230,ti Tryz.prog 230),(232,ti Tryz.prog 232),(245,ti Tryz.prog 245),(267,ti Tryz.prog 267),(281,ti Tryz.prog 281),(297,ti Tryz.prog 297),(323,ti Tryz.prog 323),(325,ti Tryz.prog 325)]
def FK:List (Nat×List Kd):=[(112,[.int .i64, .int .i64]),(129,[.int .u8, .str, .int .i64, .str, .bool]),(211,[.int .u8, .str, .int .u8, .str, .bool, .int .i64, .int .i64, .bool])]
theorem tok:TOK Tryz.prog T FK:=lI (l:=[2,3,4,5,6,7,9,11,21,22,24,25,27,33,34,62,64,65,66,68,69,71,72,74,78,88,100,102,103,105,107,109,112,114,120,126,129,131,145,150,155,169,173,184,189,191,211,230,232,245,267,281,297,323,325]) (by
 intro p hp;simp only[FK,ma,xc,Cg]at hp;rcases hp with rfl|rfl|rfl<;>kernel_rfl)
theorem mixed:Tryz.prog.follows .mixedOrders=true:=by kernel_rfl
noncomputable def body(f:Go.Func):Code:=match f.body with|some c=>c|none=> .skip
noncomputable def rsl(f:Go.Func):List ResultVar:=f.results.toList
end Go.Lv.VT
