/- What stands for the values of types. -/
import Derived.Test.YtagibnnojbolnaaGreatDoorProg
import Derived.Test.YtagibnnojbolnaaGreatDoorLf
import Derived.Test.YtagibnnojbolnaaGreatDoorTy
import Derived.KernelRfl
set_option linter.unusedSimpArgs false
set_option linter.unusedVariables false
namespace Go.Lv.VT
set_option maxRecDepth 100000
open Go.Proofs
inductive TC where
 |bool|int_i32|int_i64|int_u32|int_u64|int_u8|sl_102|sl_106|sl_118|sl_122|sl_127|sl_2|sl_3|sl_37|sl_5|sl_71|sl_80|sl_83|sl_86|sl_9|sl_90|st_VAnb|st_VComplex|st_VCompound|st_VCond|st_VDecl|st_VKept|st_VRule|st_VSheet|st_VSimple|st_VStore|st_VToken|st_VValue|st_Vanb_reader|st_Vcond_reader|st_Vnest_found|st_Vref08_base|st_Vref08_place|st_Vruntime_boundsError|st_Vseltext_place|st_Vseltext_reader|st_Vsheet_found|st_Vsheet_parser|st_Vtoken_scanner|str|other
def Ct:TC->Type
 | .bool=>Bool| .int_i32=>Int| .int_i64=>Int| .int_u32=>Int| .int_u64=>Int| .int_u8=>UInt8| .sl_102=>List zg| .sl_106=>List zb| .sl_118=>List zm| .sl_122=>List zQ| .sl_127=>List zJ| .sl_2=>List Int| .sl_3=>List Int| .sl_37=>List qE| .sl_5=>List UInt8| .sl_71=>List (List zb)| .sl_80=>List Zu| .sl_83=>List zu| .sl_86=>List zN| .sl_9=>List Str| .sl_90=>List (List Str)| .st_VAnb=>VAnb| .st_VComplex=>zm| .st_VCompound=>zQ| .st_VCond=>zu| .st_VDecl=>Zu| .st_VKept=>qE| .st_VRule=>zN| .st_VSheet=>zbj| .st_VSimple=>zJ| .st_VStore=>ZJ| .st_VToken=>zg| .st_VValue=>zb| .st_Vanb_reader=>Za| .st_Vcond_reader=>zx| .st_Vnest_found=>ZH| .st_Vref08_base=>zba| .st_Vref08_place=>Zq| .st_Vruntime_boundsError=>qj| .st_Vseltext_place=>zh| .st_Vseltext_reader=>zw| .st_Vsheet_found=>zH| .st_Vsheet_parser=>zt| .st_Vtoken_scanner=>ze| .str=>Str| .other=>Unit
def tab:List (Nat×TC):=[(2, .int_i64),(3, .int_i64),(4, .bool),(5, .int_u8),(6, .int_u8),(7, .st_Vruntime_boundsError),(9, .str),(11, .str),(21, .int_i32),(22, .sl_37),(24, .st_VStore),(28, .int_i64),(33, .sl_86),(35, .st_VSheet),(37, .st_VKept),(54, .sl_3),(68, .sl_102),(71, .sl_106),(75, .st_Vsheet_parser),(77, .sl_118),(78, .sl_80),(80, .st_VDecl),(81, .sl_83),(83, .st_VCond),(84, .sl_90),(86, .st_VRule),(90, .sl_9),(98, .st_Vsheet_found),(102, .st_VToken),(104, .sl_71),(106, .st_VValue),(109, .sl_5),(116, .sl_122),(118, .st_VComplex),(120, .sl_127),(122, .st_VCompound),(125, .st_VAnb),(127, .st_VSimple),(151, .st_Vtoken_scanner),(170, .st_Vseltext_place),(174, .st_Vnest_found),(205, .st_Vcond_reader),(212, .st_Vref08_place),(231, .int_u32),(255, .st_Vref08_base),(267, .int_u64),(311, .st_Vseltext_reader),(320, .sl_2),(376, .st_Vanb_reader)]
def tc(t:Nat):TC:=match lk tab t with|some c=>c|none=> .other
def Cn(t:Nat):Type:=Ct (tc t)
def dC:(c:TC)->Ct c
 | .bool=>(default:Bool)| .int_i32=>(default:Int)| .int_i64=>(default:Int)| .int_u32=>(default:Int)| .int_u64=>(default:Int)| .int_u8=>(default:UInt8)| .sl_102=>(default:List zg)| .sl_106=>(default:List zb)| .sl_118=>(default:List zm)| .sl_122=>(default:List zQ)| .sl_127=>(default:List zJ)| .sl_2=>(default:List Int)| .sl_3=>(default:List Int)| .sl_37=>(default:List qE)| .sl_5=>(default:List UInt8)| .sl_71=>(default:List (List zb))| .sl_80=>(default:List Zu)| .sl_83=>(default:List zu)| .sl_86=>(default:List zN)| .sl_9=>(default:List Str)| .sl_90=>(default:List (List Str))| .st_VAnb=>(default:VAnb)| .st_VComplex=>(default:zm)| .st_VCompound=>(default:zQ)| .st_VCond=>(default:zu)| .st_VDecl=>(default:Zu)| .st_VKept=>(default:qE)| .st_VRule=>(default:zN)| .st_VSheet=>(default:zbj)| .st_VSimple=>(default:zJ)| .st_VStore=>(default:ZJ)| .st_VToken=>(default:zg)| .st_VValue=>(default:zb)| .st_Vanb_reader=>(default:Za)| .st_Vcond_reader=>(default:zx)| .st_Vnest_found=>(default:ZH)| .st_Vref08_base=>(default:zba)| .st_Vref08_place=>(default:Zq)| .st_Vruntime_boundsError=>(default:qj)| .st_Vseltext_place=>(default:zh)| .st_Vseltext_reader=>(default:zw)| .st_Vsheet_found=>(default:zH)| .st_Vsheet_parser=>(default:zt)| .st_Vtoken_scanner=>(default:ze)| .str=>(default:Str)| .other=>()
def size:TC->Nat
 | .st_VAnb=>2| .st_VComplex=>3| .st_VCompound=>2| .st_VCond=>7| .st_VDecl=>3| .st_VKept=>4| .st_VRule=>12| .st_VSimple=>9| .st_VStore=>2| .st_VToken=>5| .st_VValue=>6| .st_Vnest_found=>3| .st_Vref08_base=>8| .st_Vref08_place=>2| .st_Vruntime_boundsError=>4| .st_Vseltext_place=>2| .st_Vseltext_reader=>2| .st_Vsheet_found=>3| .st_Vsheet_parser=>2| .st_Vtoken_scanner=>2|_=>1
def zJp(x:VAnb):List PV:=[.at (.int .i64 x.a), .at (.int .i64 x.b)]
mutual
def zf:zm->List PV
 |⟨x_lead,x_parts,x_combs⟩=>[.at (.int .u8 x_lead), .sl (cz x_parts), .sl (x_combs.map (fun y=>[.at (.int .u8 y.toNat)]))]
def Pz:List zm->List (List PV)
 |[]=>[]
 |v::r=>zf v::Pz r
def zZ:zQ->List PV
 |⟨x_tag,x_simples⟩=>[.str x_tag, .sl (Hz x_simples)]
def cz:List zQ->List (List PV)
 |[]=>[]
 |v::r=>zZ v::cz r
def zY:zJ->List PV
 |⟨x_kind,x_name,x_op,x_value,x_fold,x_anb,x_of_,x_list⟩=>[.at (.int .u8 x_kind), .str x_name, .at (.int .u8 x_op), .str x_value, .at (.bool x_fold), .at (.int .i64 x_anb.a), .at (.int .i64 x_anb.b), .at (.bool x_of_), .sl (Pz x_list)]
def Hz:List zJ->List (List PV)
 |[]=>[]
 |v::r=>zY v::Hz r
end
theorem LH: ∀(l:List zm),Pz l=l.map zf
 |[]=>by rw[Pz];rfl
 |v::r=>by rw[Pz,LH r];rfl
theorem bH: ∀(l:List zQ),cz l=l.map zZ
 |[]=>by rw[cz];rfl
 |v::r=>by rw[cz,bH r];rfl
theorem eG: ∀(l:List zJ),Hz l=l.map zY
 |[]=>by rw[Hz];rfl
 |v::r=>by rw[Hz,eG r];rfl
def NK(x:zg):List PV:=[.at (.int .u8 x.kind), .str x.text, .at (.int .i64 x.num), .str x.unit, .at (.bool x.flag)]
mutual
def zD:zb->List PV
 |⟨x_token,x_list⟩=>[.at (.int .u8 x_token.kind), .str x_token.text, .at (.int .i64 x_token.num), .str x_token.unit, .at (.bool x_token.flag), .sl (Az x_list)]
def Az:List zb->List (List PV)
 |[]=>[]
 |v::r=>zD v::Az r
end
theorem yR: ∀(l:List zb),Az l=l.map zD
 |[]=>by rw[Az];rfl
 |v::r=>by rw[Az,yR r];rfl
def Zv(x:Zu):List PV:=[.str x.name, .sl (x.value.map zD), .at (.bool x.important)]
mutual
def zk:zu->List PV
 |⟨x_kind,x_name,x_num,x_decl,x_list⟩=>[.at (.int .u8 x_kind), .str x_name, .at (.int .i64 x_num), .str x_decl.name, .sl (x_decl.value.map zD), .at (.bool x_decl.important), .sl (Sy x_list)]
def Sy:List zu->List (List PV)
 |[]=>[]
 |v::r=>zk v::Sy r
end
theorem KR: ∀(l:List zu),Sy l=l.map zk
 |[]=>by rw[Sy];rfl
 |v::r=>by rw[Sy,KR r];rfl
mutual
def zy:zN->List PV
 |⟨x_kind,x_selectors,x_decls,x_cond,x_names,x_rules⟩=>[.at (.int .u8 x_kind), .sl (x_selectors.map zf), .sl (x_decls.map Zv), .at (.int .u8 x_cond.kind), .str x_cond.name, .at (.int .i64 x_cond.num), .str x_cond.decl.name, .sl (x_cond.decl.value.map zD), .at (.bool x_cond.decl.important), .sl (x_cond.list.map zk), .sl (x_names.map (fun y=>[.sl (y.map (fun y=>[.str y]))])), .sl (Ry x_rules)]
def Ry:List zN->List (List PV)
 |[]=>[]
 |v::r=>zy v::Ry r
end
theorem JR: ∀(l:List zN),Ry l=l.map zy
 |[]=>by rw[Ry];rfl
 |v::r=>by rw[Ry,JR r];rfl
def zEG(x:zbj):List PV:=[.sl (x.rules.map zy)]
def Zt(x:qE):List PV:=[.at (.int .i64 x.number), .at (.int .u8 x.origin), .str x.site, .sl (x.sheet.rules.map zy)]
def fu(x:ZJ):List PV:=[.sl (x.sheets.map Zt), .at (.int .i64 x.next)]
def zrY(x:Za):List PV:=[.sl (x.l.map NK)]
def zqt(x:zx):List PV:=[.sl (x.v.map zD)]
def zrZ(x:ZH):List PV:=[.at (.int .i64 x.depth), .at (.int .i64 x.tokens), .at (.bool x.bad)]
def zr0(x:zba):List PV:=[.at (.int .u8 x.kind), .str x.name, .at (.int .u8 x.op), .str x.value, .at (.bool x.fold), .at (.int .i64 x.anb.a), .at (.int .i64 x.anb.b), .at (.bool x.of_)]
def zqu(x:Zq):List PV:=[.at (.int .i64 x.deep), .at (.bool x.has)]
def zhX(x:qj):List PV:=[.at (.int .i64 x.x), .at (.int .i64 x.y), .at (.bool x.signed), .at (.int .u8 x.code)]
def znD(x:zh):List PV:=[.at (.int .i64 x.deep), .at (.bool x.has)]
def zmE(x:zw):List PV:=[.sl (x.v.map zD), .at (.int .i64 x.at_)]
def zqv(x:zH):List PV:=[.at (.int .i64 x.rules), .at (.int .i64 x.depth), .at (.bool x.bad)]
def zo0(x:zt):List PV:=[.at (.int .i64 x.room), .at (.int .i64 x.constructs)]
def znE(x:ze):List PV:=[.str x.s, .at (.int .i64 x.at_)]
theorem KH(x:zm):zf x=[.at (.int .u8 x.lead), .sl (x.parts.map zZ), .sl (x.combs.map (fun y=>[.at (.int .u8 y.toNat)]))]:=by cases x;simp only[zf,LH,bH,eG]
theorem aH(x:zQ):zZ x=[.str x.tag, .sl (x.simples.map zY)]:=by cases x;simp only[zZ,LH,bH,eG]
theorem dG(x:zJ):zY x=[.at (.int .u8 x.kind), .str x.name, .at (.int .u8 x.op), .str x.value, .at (.bool x.fold), .at (.int .i64 x.anb.a), .at (.int .i64 x.anb.b), .at (.bool x.of_), .sl (x.list.map zf)]:=by cases x;simp only[zY,LH,bH,eG]
theorem OG(x:zb):zD x=[.at (.int .u8 x.token.kind), .str x.token.text, .at (.int .i64 x.token.num), .str x.token.unit, .at (.bool x.token.flag), .sl (x.list.map zD)]:=by cases x;simp only[zD,yR]
theorem Oz(x:zu):zk x=[.at (.int .u8 x.kind), .str x.name, .at (.int .i64 x.num), .str x.decl.name, .sl (x.decl.value.map zD), .at (.bool x.decl.important), .sl (x.list.map zk)]:=by cases x;simp only[zk,KR]
theorem sF(x:zN):zy x=[.at (.int .u8 x.kind), .sl (x.selectors.map zf), .sl (x.decls.map Zv), .at (.int .u8 x.cond.kind), .str x.cond.name, .at (.int .i64 x.cond.num), .str x.cond.decl.name, .sl (x.cond.decl.value.map zD), .at (.bool x.cond.decl.important), .sl (x.cond.list.map zk), .sl (x.names.map (fun y=>[.sl (y.map (fun y=>[.str y]))])), .sl (x.rules.map zy)]:=by cases x;simp only[zy,JR]
def fC(n:Nat):(c:TC)->Ct c->List PV
 | .bool,(x:Bool)=>[.at (.bool x)]
 | .int_i32,(x:Int)=>[.at (.int .i32 x)]
 | .int_i64,(x:Int)=>[.at (.int .i64 x)]
 | .int_u32,(x:Int)=>[.at (.int .u32 x)]
 | .int_u64,(x:Int)=>[.at (.int .u64 x)]
 | .int_u8,(x:UInt8)=>[.at (.int .u8 x.toNat)]
 | .sl_102,(x:List zg)=>[.sl (x.map NK)]
 | .sl_106,(x:List zb)=>[.sl (x.map zD)]
 | .sl_118,(x:List zm)=>[.sl (x.map zf)]
 | .sl_122,(x:List zQ)=>[.sl (x.map zZ)]
 | .sl_127,(x:List zJ)=>[.sl (x.map zY)]
 | .sl_2,(x:List Int)=>[.sl (x.map (fun y=>[.at (.int .i64 y)]))]
 | .sl_3,(x:List Int)=>[.sl (x.map (fun y=>[.at (.int .i64 y)]))]
 | .sl_37,(x:List qE)=>[.sl (x.map Zt)]
 | .sl_5,(x:List UInt8)=>[.sl (x.map (fun y=>[.at (.int .u8 y.toNat)]))]
 | .sl_71,(x:List (List zb))=>[.sl (x.map (fun y=>[.sl (y.map zD)]))]
 | .sl_80,(x:List Zu)=>[.sl (x.map Zv)]
 | .sl_83,(x:List zu)=>[.sl (x.map zk)]
 | .sl_86,(x:List zN)=>[.sl (x.map zy)]
 | .sl_9,(x:List Str)=>[.sl (x.map (fun y=>[.str y]))]
 | .sl_90,(x:List (List Str))=>[.sl (x.map (fun y=>[.sl (y.map (fun y=>[.str y]))]))]
 | .st_VAnb,(x:VAnb)=>zJp x
 | .st_VComplex,(x:zm)=>zf x
 | .st_VCompound,(x:zQ)=>zZ x
 | .st_VCond,(x:zu)=>zk x
 | .st_VDecl,(x:Zu)=>Zv x
 | .st_VKept,(x:qE)=>Zt x
 | .st_VRule,(x:zN)=>zy x
 | .st_VSheet,(x:zbj)=>zEG x
 | .st_VSimple,(x:zJ)=>zY x
 | .st_VStore,(x:ZJ)=>fu x
 | .st_VToken,(x:zg)=>NK x
 | .st_VValue,(x:zb)=>zD x
 | .st_Vanb_reader,(x:Za)=>zrY x
 | .st_Vcond_reader,(x:zx)=>zqt x
 | .st_Vnest_found,(x:ZH)=>zrZ x
 | .st_Vref08_base,(x:zba)=>zr0 x
 | .st_Vref08_place,(x:Zq)=>zqu x
 | .st_Vruntime_boundsError,(x:qj)=>zhX x
 | .st_Vseltext_place,(x:zh)=>znD x
 | .st_Vseltext_reader,(x:zw)=>zmE x
 | .st_Vsheet_found,(x:zH)=>zqv x
 | .st_Vsheet_parser,(x:zt)=>zo0 x
 | .st_Vtoken_scanner,(x:ze)=>znE x
 | .str,(x:Str)=>[.str x]
 | .other,_=>List.replicate n (.at (.slice none 0 0))
def eC(n:Nat):(c:TC)->Ct c->List (EV Cn)
 | .bool,(x:Bool)=>[.bool x]
 | .int_i32,(x:Int)=>[.int .i32 x]
 | .int_i64,(x:Int)=>[.int .i64 x]
 | .int_u32,(x:Int)=>[.int .u32 x]
 | .int_u64,(x:Int)=>[.int .u64 x]
 | .int_u8,(x:UInt8)=>[.int .u8 (x.toNat:Int)]
 | .sl_102,(x:List zg)=>[.sl 102 x]
 | .sl_106,(x:List zb)=>[.sl 106 x]
 | .sl_118,(x:List zm)=>[.sl 118 x]
 | .sl_122,(x:List zQ)=>[.sl 122 x]
 | .sl_127,(x:List zJ)=>[.sl 127 x]
 | .sl_2,(x:List Int)=>[.sl 2 x]
 | .sl_3,(x:List Int)=>[.sl 3 x]
 | .sl_37,(x:List qE)=>[.sl 37 x]
 | .sl_5,(x:List UInt8)=>[.sl 5 x]
 | .sl_71,(x:List (List zb))=>[.sl 71 x]
 | .sl_80,(x:List Zu)=>[.sl 80 x]
 | .sl_83,(x:List zu)=>[.sl 83 x]
 | .sl_86,(x:List zN)=>[.sl 86 x]
 | .sl_9,(x:List Str)=>[.sl 9 x]
 | .sl_90,(x:List (List Str))=>[.sl 90 x]
 | .st_VAnb,(x:VAnb)=>[.int .i64 x.a, .int .i64 x.b]
 | .st_VComplex,(x:zm)=>[.int .u8 x.lead, .sl 122 x.parts, .sl 5 x.combs]
 | .st_VCompound,(x:zQ)=>[.str x.tag, .sl 127 x.simples]
 | .st_VCond,(x:zu)=>[.int .u8 x.kind, .str x.name, .int .i64 x.num, .str x.decl.name, .sl 106 x.decl.value, .bool x.decl.important, .sl 83 x.list]
 | .st_VDecl,(x:Zu)=>[.str x.name, .sl 106 x.value, .bool x.important]
 | .st_VKept,(x:qE)=>[.int .i64 x.number, .int .u8 x.origin, .str x.site, .sl 86 x.sheet.rules]
 | .st_VRule,(x:zN)=>[.int .u8 x.kind, .sl 118 x.selectors, .sl 80 x.decls, .int .u8 x.cond.kind, .str x.cond.name, .int .i64 x.cond.num, .str x.cond.decl.name, .sl 106 x.cond.decl.value, .bool x.cond.decl.important, .sl 83 x.cond.list, .sl 90 x.names, .sl 86 x.rules]
 | .st_VSheet,(x:zbj)=>[.sl 86 x.rules]
 | .st_VSimple,(x:zJ)=>[.int .u8 x.kind, .str x.name, .int .u8 x.op, .str x.value, .bool x.fold, .int .i64 x.anb.a, .int .i64 x.anb.b, .bool x.of_, .sl 118 x.list]
 | .st_VStore,(x:ZJ)=>[.sl 37 x.sheets, .int .i64 x.next]
 | .st_VToken,(x:zg)=>[.int .u8 x.kind, .str x.text, .int .i64 x.num, .str x.unit, .bool x.flag]
 | .st_VValue,(x:zb)=>[.int .u8 x.token.kind, .str x.token.text, .int .i64 x.token.num, .str x.token.unit, .bool x.token.flag, .sl 106 x.list]
 | .st_Vanb_reader,(x:Za)=>[.sl 102 x.l]
 | .st_Vcond_reader,(x:zx)=>[.sl 106 x.v]
 | .st_Vnest_found,(x:ZH)=>[.int .i64 x.depth, .int .i64 x.tokens, .bool x.bad]
 | .st_Vref08_base,(x:zba)=>[.int .u8 x.kind, .str x.name, .int .u8 x.op, .str x.value, .bool x.fold, .int .i64 x.anb.a, .int .i64 x.anb.b, .bool x.of_]
 | .st_Vref08_place,(x:Zq)=>[.int .i64 x.deep, .bool x.has]
 | .st_Vruntime_boundsError,(x:qj)=>[.int .i64 x.x, .int .i64 x.y, .bool x.signed, .int .u8 x.code]
 | .st_Vseltext_place,(x:zh)=>[.int .i64 x.deep, .bool x.has]
 | .st_Vseltext_reader,(x:zw)=>[.sl 106 x.v, .int .i64 x.at_]
 | .st_Vsheet_found,(x:zH)=>[.int .i64 x.rules, .int .i64 x.depth, .bool x.bad]
 | .st_Vsheet_parser,(x:zt)=>[.int .i64 x.room, .int .i64 x.constructs]
 | .st_Vtoken_scanner,(x:ze)=>[.str x.s, .int .i64 x.at_]
 | .str,(x:Str)=>[.str x]
 | .other,_=>List.replicate n .nil
def mC:(c:TC)->List (EV Cn)->Option (Ct c)
 | .bool=>mF Yh mE
 | .int_i32=>mF (dInt .i32) mE
 | .int_i64=>mF (dInt .i64) mE
 | .int_u32=>mF (dInt .u32) mE
 | .int_u64=>mF (dInt .u64) mE
 | .int_u8=>mB
 | .sl_102=>mF (dSl 102) mE
 | .sl_106=>mF (dSl 106) mE
 | .sl_118=>mF (dSl 118) mE
 | .sl_122=>mF (dSl 122) mE
 | .sl_127=>mF (dSl 127) mE
 | .sl_2=>mF (dSl 2) mE
 | .sl_3=>mF (dSl 3) mE
 | .sl_37=>mF (dSl 37) mE
 | .sl_5=>mF (dSl 5) mE
 | .sl_71=>mF (dSl 71) mE
 | .sl_80=>mF (dSl 80) mE
 | .sl_83=>mF (dSl 83) mE
 | .sl_86=>mF (dSl 86) mE
 | .sl_9=>mF (dSl 9) mE
 | .sl_90=>mF (dSl 90) mE
 | .st_VAnb=>mF (dInt .i64) fun x0=>mF (dInt .i64) fun x1=>mE (⟨x0,x1⟩:VAnb)
 | .st_VComplex=>mF (dInt .u8) fun x0=>mF (dSl 122) fun x1=>mF (dSl 5) fun x2=>mE (⟨x0,x1,x2⟩:zm)
 | .st_VCompound=>mF dStr fun x0=>mF (dSl 127) fun x1=>mE (⟨x0,x1⟩:zQ)
 | .st_VCond=>mF (dInt .u8) fun x0=>mF dStr fun x1=>mF (dInt .i64) fun x2=>mF dStr fun x3=>mF (dSl 106) fun x4=>mF Yh fun x5=>mF (dSl 83) fun x6=>mE (⟨x0,x1,x2,(⟨x3,x4,x5⟩:Zu),x6⟩:zu)
 | .st_VDecl=>mF dStr fun x0=>mF (dSl 106) fun x1=>mF Yh fun x2=>mE (⟨x0,x1,x2⟩:Zu)
 | .st_VKept=>mF (dInt .i64) fun x0=>mF (dInt .u8) fun x1=>mF dStr fun x2=>mF (dSl 86) fun x3=>mE (⟨x0,x1,x2,(⟨x3⟩:zbj)⟩:qE)
 | .st_VRule=>mF (dInt .u8) fun x0=>mF (dSl 118) fun x1=>mF (dSl 80) fun x2=>mF (dInt .u8) fun x3=>mF dStr fun x4=>mF (dInt .i64) fun x5=>mF dStr fun x6=>mF (dSl 106) fun x7=>mF Yh fun x8=>mF (dSl 83) fun x9=>mF (dSl 90) fun x10=>mF (dSl 86) fun x11=>mE (⟨x0,x1,x2,(⟨x3,x4,x5,(⟨x6,x7,x8⟩:Zu),x9⟩:zu),x10,x11⟩:zN)
 | .st_VSheet=>mF (dSl 86) fun x0=>mE (⟨x0⟩:zbj)
 | .st_VSimple=>mF (dInt .u8) fun x0=>mF dStr fun x1=>mF (dInt .u8) fun x2=>mF dStr fun x3=>mF Yh fun x4=>mF (dInt .i64) fun x5=>mF (dInt .i64) fun x6=>mF Yh fun x7=>mF (dSl 118) fun x8=>mE (⟨x0,x1,x2,x3,x4,(⟨x5,x6⟩:VAnb),x7,x8⟩:zJ)
 | .st_VStore=>mF (dSl 37) fun x0=>mF (dInt .i64) fun x1=>mE (⟨x0,x1⟩:ZJ)
 | .st_VToken=>mF (dInt .u8) fun x0=>mF dStr fun x1=>mF (dInt .i64) fun x2=>mF dStr fun x3=>mF Yh fun x4=>mE (⟨x0,x1,x2,x3,x4⟩:zg)
 | .st_VValue=>mF (dInt .u8) fun x0=>mF dStr fun x1=>mF (dInt .i64) fun x2=>mF dStr fun x3=>mF Yh fun x4=>mF (dSl 106) fun x5=>mE (⟨(⟨x0,x1,x2,x3,x4⟩:zg),x5⟩:zb)
 | .st_Vanb_reader=>mF (dSl 102) fun x0=>mE (⟨x0⟩:Za)
 | .st_Vcond_reader=>mF (dSl 106) fun x0=>mE (⟨x0⟩:zx)
 | .st_Vnest_found=>mF (dInt .i64) fun x0=>mF (dInt .i64) fun x1=>mF Yh fun x2=>mE (⟨x0,x1,x2⟩:ZH)
 | .st_Vref08_base=>mF (dInt .u8) fun x0=>mF dStr fun x1=>mF (dInt .u8) fun x2=>mF dStr fun x3=>mF Yh fun x4=>mF (dInt .i64) fun x5=>mF (dInt .i64) fun x6=>mF Yh fun x7=>mE (⟨x0,x1,x2,x3,x4,(⟨x5,x6⟩:VAnb),x7⟩:zba)
 | .st_Vref08_place=>mF (dInt .i64) fun x0=>mF Yh fun x1=>mE (⟨x0,x1⟩:Zq)
 | .st_Vruntime_boundsError=>mF (dInt .i64) fun x0=>mF (dInt .i64) fun x1=>mF Yh fun x2=>mF (dInt .u8) fun x3=>mE (⟨x0,x1,x2,x3⟩:qj)
 | .st_Vseltext_place=>mF (dInt .i64) fun x0=>mF Yh fun x1=>mE (⟨x0,x1⟩:zh)
 | .st_Vseltext_reader=>mF (dSl 106) fun x0=>mF (dInt .i64) fun x1=>mE (⟨x0,x1⟩:zw)
 | .st_Vsheet_found=>mF (dInt .i64) fun x0=>mF (dInt .i64) fun x1=>mF Yh fun x2=>mE (⟨x0,x1,x2⟩:zH)
 | .st_Vsheet_parser=>mF (dInt .i64) fun x0=>mF (dInt .i64) fun x1=>mE (⟨x0,x1⟩:zt)
 | .st_Vtoken_scanner=>mF dStr fun x0=>mF (dInt .i64) fun x1=>mE (⟨x0,x1⟩:ze)
 | .str=>mF dStr mE
 | .other=>fun _=>none
def bC:(c:TC)->Option ((List UInt8->List (Ct c))×(List (Ct c)->List UInt8))
 | .int_u8=>some (fun l=>l,fun l=>l)
 |_=>none
noncomputable def I:Ip:=⟨Cn,fun t=>dC (tc t),fun t=>eC (Tryz.prog.cellsOf t) (tc t),fun t=>mC (tc t),fun t=>fC (Tryz.prog.cellsOf t) (tc t),fun t=>bC (tc t)⟩
theorem zOr:(tab.all fun p=>Nat.beq (Tryz.prog.cellsOf p.1) (size p.2))=true:=by kernel_rfl
theorem zI6(t:Nat)(h:tc t≠ .other):Tryz.prog.cellsOf t=size (tc t):=by
 unfold tc at h ⊢;cases hl:lk tab t with
 |none=>rw[hl]at h;exact absurd rfl h
 |some c=> simp only;exact La (Pb.1 zOr _ (Ah hl))
theorem zMh(n:Nat)(c:TC)(cs:List (EV Cn))(x:Ct c)(h:mC c cs=some x):All2 (Dec I) cs (fC n c x):=by
 cases c
 case other=>cases h
 case int_u8=>exact zOK h
 all_goals
  simp only[mC]at h
  repeat
   obtain⟨_,_,_,rfl,hd,h⟩:=zNO h
   first|replace hd:=GX (I:=I) hd|replace hd:=zLC (I:=I) hd|replace hd:=zJf (I:=I) hd|replace hd:=zNr (I:=I) hd
  obtain⟨rfl,rfl⟩:=zNN h;simp only[fC,KH,aH,dG,OG,Oz,sF]
  repeat first|exact .nil|assumption|refine .cons ?_ ?_
theorem fe(n:Nat)(c:TC)(x:Ct c):fC n c x=(eC n c x).map (pvE I):=by
 cases c
 case other=>show List.replicate n _=(List.replicate n EV.nil).map (pvE I);rw[List.map_replicate];rfl
 all_goals first|exact KH x|exact aH x|exact dG x|exact OG x|exact Oz x|exact sF x|rfl
theorem zNs(n:Nat)(c:TC)(x:Ct c)(h:c≠ .other->n=size c):(eC n c x).length=n:=by
 cases c
 case other=>simp[eC]
 all_goals (rw[h (by simp)];rfl)
theorem zLG(n:Nat)(c:TC)(x:Ct c):(eC n c x).all (Sl (I:=I))=true:=by
 cases c
 case other=>exact Pb.2 fun v hv=>by rw[(List.mem_replicate.1 hv).2];rfl
 all_goals rfl
theorem zOs:(tab.all fun p=>match p.2 with| .int_u8=>(match kdOf Tryz.prog p.1 with| .int .u8=>true|_=>false)|_=>true)=true:=by kernel_rfl
theorem zOJ(t:Nat)(h:tc t= .int_u8):kdOf Tryz.prog t= .int .u8:=by
 unfold tc at h;cases hl:lk tab t with
 |none=>rw[hl]at h;cases h
 |some c=>
  rw[hl]at h;have h:c= .int_u8:=h;subst h;have:=Pb.1 zOs _ (Ah hl);simp only at this;split at this
  ·assumption
  ·cases this
theorem zLr(n:Nat): ∀(c:TC) (p:(List UInt8->List (Ct c))×(List (Ct c)->List UInt8)),bC c=some p->(∀l,(p.1 l).map (fC n c)=l.map fun b=>[PV.at (.int .u8 b.toNat)])/\(∀l,l.map (fC n c)=(p.2 l).map fun b=>[PV.at (.int .u8 b.toNat)])/\c= .int_u8:=by
 intro c p h;cases c
 case int_u8=>cases h;exact⟨fun l=>rfl,fun l=>rfl,rfl⟩
 all_goals cases h
theorem zNm(t:Nat)(p:(List UInt8->List (I.C t))×(List (I.C t)->List UInt8))(h:I.byt t=some p):(∀l,(p.1 l).map (I.full t)=l.map fun b=>[PV.at (.int .u8 b.toNat)])/\(∀l,l.map (I.full t)=(p.2 l).map fun b=>[PV.at (.int .u8 b.toNat)])/\kdOf Tryz.prog t= .int .u8:=by obtain⟨h1,h2,h3⟩:=zLr (Tryz.prog.cellsOf t) (tc t) p h;exact⟨h1,h2,zOJ t h3⟩
theorem ipOK:IpOK Tryz.prog I where
 len:=fun t x=>by show(fC _ _ x).length=_;exact(congrArg List.length (fe _ (tc t) x)).trans ((Fb ..).trans (zNs _ (tc t) x (zI6 t)))
 exp:=fun t x=>fe _ _ x
 pur:=fun t x v hv=>Pb.1 (zLG _ _ x) v hv
 made:=fun t cs x h=>decs (zMh _ _ cs x h)
 byt:=zNm
def tl:List Nat:=[2,3,4,5,6,7,9,11,21,22,24,28,33,35,37,54,58,68,71,75,77,78,80,81,83,84,86,90,98,102,104,106,109,113,116,118,120,122,125,127,149,151,170,174,185,203,205,212,231,253,255,267,309,311,320,374,376,387]
noncomputable def T:TT:=tl.map fun t=>(t,ti Tryz.prog t)
def FK:List (Nat×List Kd):=[(102,[.int .u8, .str, .int .i64, .str, .bool]),(125,[.int .i64, .int .i64]),(255,[.int .u8, .str, .int .u8, .str, .bool, .int .i64, .int .i64, .bool])]
theorem tok:TOK Tryz.prog T FK:=EN (l:=tl) (by
 intro p hp;simp only[FK,Jb,Pe,or_false]at hp;rcases hp with rfl|rfl|rfl<;>kernel_rfl)
theorem mixed:Tryz.prog.follows .mixedOrders=true:=by kernel_rfl
noncomputable def body(f:Go.Func):Code:=match f.body with|some c=>c|none=> .skip
noncomputable def rsl(f:Go.Func):List ResultVar:=f.results.toList
end Go.Lv.VT
