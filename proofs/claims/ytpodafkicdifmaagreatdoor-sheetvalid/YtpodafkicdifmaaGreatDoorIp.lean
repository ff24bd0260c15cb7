/- What stands for the values of types. -/
import Derived.Test.YtpodafkicdifmaaGreatDoorProg
import Derived.Test.YtpodafkicdifmaaGreatDoorLf
import Derived.Test.YtpodafkicdifmaaGreatDoorTy
import Derived.KernelRfl
set_option linter.unusedSimpArgs false
set_option linter.unusedVariables false
namespace Go.Lv.VT
set_option maxRecDepth 100000
open Go.Proofs
inductive TC where
 |bool|int_i32|int_i64|int_u32|int_u64|int_u8|sl_113|sl_116|sl_120|sl_2|sl_37|sl_39|sl_42|sl_45|sl_5|sl_51|sl_70|sl_72|sl_74|sl_9|st_VAnb|st_VArr2_i64|st_VComplex|st_VCompound|st_VCond|st_VDecl|st_VRule|st_VSheet|st_VSimple|st_VToken|st_VValue|st_Vanb_reader|st_Vcond_reader|st_Vnest_found|st_Vref08_base|st_Vref08_place|st_Vruntime_boundsError|st_Vseltext_place|st_Vseltext_reader|st_Vsheet_found|st_Vsheet_parser|st_Vtoken_scanner|str|other
def Ct:TC->Type
 | .bool=>Bool| .int_i32=>Int| .int_i64=>Int| .int_u32=>Int| .int_u64=>Int| .int_u8=>UInt8| .sl_113=>List zm| .sl_116=>List zO| .sl_120=>List zI| .sl_2=>List Int| .sl_37=>List (List zb)| .sl_39=>List Zx| .sl_42=>List zw| .sl_45=>List zM| .sl_5=>List UInt8| .sl_51=>List (List Str)| .sl_70=>List ZK| .sl_72=>List zf| .sl_74=>List zb| .sl_9=>List Str| .st_VAnb=>VAnb| .st_VArr2_i64=>ZK| .st_VComplex=>zm| .st_VCompound=>zO| .st_VCond=>zw| .st_VDecl=>Zx| .st_VRule=>zM| .st_VSheet=>zc1| .st_VSimple=>zI| .st_VToken=>zf| .st_VValue=>zb| .st_Vanb_reader=>zY| .st_Vcond_reader=>zx| .st_Vnest_found=>ZG| .st_Vref08_base=>za5| .st_Vref08_place=>Zo| .st_Vruntime_boundsError=>qg| .st_Vseltext_place=>zg| .st_Vseltext_reader=>zu| .st_Vsheet_found=>zG| .st_Vsheet_parser=>zq| .st_Vtoken_scanner=>ze| .str=>Str| .other=>Unit
def tab:List (Nat×TC):=[(2, .int_i64),(3, .int_i64),(4, .bool),(5, .int_u8),(6, .int_u8),(7, .st_Vruntime_boundsError),(9, .str),(11, .str),(21, .int_i32),(23, .sl_45),(25, .st_VSheet),(26, .int_i64),(35, .sl_113),(36, .sl_39),(37, .sl_74),(39, .st_VDecl),(40, .sl_42),(42, .st_VCond),(43, .sl_51),(45, .st_VRule),(51, .sl_9),(56, .st_Vsheet_found),(62, .sl_72),(65, .sl_70),(70, .st_VArr2_i64),(72, .st_VToken),(74, .st_VValue),(77, .sl_5),(79, .st_Vsheet_parser),(96, .sl_37),(111, .sl_116),(113, .st_VComplex),(114, .sl_120),(116, .st_VCompound),(118, .st_VAnb),(120, .st_VSimple),(124, .st_Vseltext_place),(128, .st_Vnest_found),(147, .int_u32),(163, .st_Vtoken_scanner),(207, .st_Vcond_reader),(217, .st_Vref08_place),(241, .st_Vref08_base),(275, .int_u64),(285, .sl_2),(310, .st_Vseltext_reader),(349, .st_Vanb_reader)]
def tc(t:Nat):TC:=match lk tab t with|some c=>c|none=> .other
def Cn(t:Nat):Type:=Ct (tc t)
def dC:(c:TC)->Ct c
 | .bool=>(default:Bool)| .int_i32=>(default:Int)| .int_i64=>(default:Int)| .int_u32=>(default:Int)| .int_u64=>(default:Int)| .int_u8=>(default:UInt8)| .sl_113=>(default:List zm)| .sl_116=>(default:List zO)| .sl_120=>(default:List zI)| .sl_2=>(default:List Int)| .sl_37=>(default:List (List zb))| .sl_39=>(default:List Zx)| .sl_42=>(default:List zw)| .sl_45=>(default:List zM)| .sl_5=>(default:List UInt8)| .sl_51=>(default:List (List Str))| .sl_70=>(default:List ZK)| .sl_72=>(default:List zf)| .sl_74=>(default:List zb)| .sl_9=>(default:List Str)| .st_VAnb=>(default:VAnb)| .st_VArr2_i64=>(default:ZK)| .st_VComplex=>(default:zm)| .st_VCompound=>(default:zO)| .st_VCond=>(default:zw)| .st_VDecl=>(default:Zx)| .st_VRule=>(default:zM)| .st_VSheet=>(default:zc1)| .st_VSimple=>(default:zI)| .st_VToken=>(default:zf)| .st_VValue=>(default:zb)| .st_Vanb_reader=>(default:zY)| .st_Vcond_reader=>(default:zx)| .st_Vnest_found=>(default:ZG)| .st_Vref08_base=>(default:za5)| .st_Vref08_place=>(default:Zo)| .st_Vruntime_boundsError=>(default:qg)| .st_Vseltext_place=>(default:zg)| .st_Vseltext_reader=>(default:zu)| .st_Vsheet_found=>(default:zG)| .st_Vsheet_parser=>(default:zq)| .st_Vtoken_scanner=>(default:ze)| .str=>(default:Str)| .other=>()
def size:TC->Nat
 | .st_VAnb=>2| .st_VArr2_i64=>2| .st_VComplex=>3| .st_VCompound=>2| .st_VCond=>7| .st_VDecl=>3| .st_VRule=>12| .st_VSimple=>9| .st_VToken=>5| .st_VValue=>6| .st_Vnest_found=>3| .st_Vref08_base=>8| .st_Vref08_place=>2| .st_Vruntime_boundsError=>4| .st_Vseltext_place=>2| .st_Vseltext_reader=>2| .st_Vsheet_found=>3| .st_Vsheet_parser=>2| .st_Vtoken_scanner=>2|_=>1
def zH2(x:VAnb):List PV:=[.at (.int .i64 x.a), .at (.int .i64 x.b)]
def JS(x:ZK):List PV:=[.at (.int .i64 x.e0), .at (.int .i64 x.e1)]
mutual
def zh:zm->List PV
 |⟨x_lead,x_parts,x_combs⟩=>[.at (.int .u8 x_lead), .sl (pz x_parts), .sl (x_combs.map (fun y=>[.at (.int .u8 y.toNat)]))]
def bz:List zm->List (List PV)
 |[]=>[]
 |v::r=>zh v::bz r
def z8:zO->List PV
 |⟨x_tag,x_simples⟩=>[.str x_tag, .sl (Oz x_simples)]
def pz:List zO->List (List PV)
 |[]=>[]
 |v::r=>z8 v::pz r
def zW:zI->List PV
 |⟨x_kind,x_name,x_op,x_value,x_fold,x_anb,x_of_,x_list⟩=>[.at (.int .u8 x_kind), .str x_name, .at (.int .u8 x_op), .str x_value, .at (.bool x_fold), .at (.int .i64 x_anb.a), .at (.int .i64 x_anb.b), .at (.bool x_of_), .sl (bz x_list)]
def Oz:List zI->List (List PV)
 |[]=>[]
 |v::r=>zW v::Oz r
end
theorem TG: ∀(l:List zm),bz l=l.map zh
 |[]=>by rw[bz];rfl
 |v::r=>by rw[bz,TG r];rfl
theorem jG: ∀(l:List zO),pz l=l.map z8
 |[]=>by rw[pz];rfl
 |v::r=>by rw[pz,jG r];rfl
theorem WG: ∀(l:List zI),Oz l=l.map zW
 |[]=>by rw[Oz];rfl
 |v::r=>by rw[Oz,WG r];rfl
def YJ(x:zf):List PV:=[.at (.int .u8 x.kind), .str x.text, .at (.int .i64 x.num), .str x.unit, .at (.bool x.flag)]
mutual
def zA:zb->List PV
 |⟨x_token,x_list⟩=>[.at (.int .u8 x_token.kind), .str x_token.text, .at (.int .i64 x_token.num), .str x_token.unit, .at (.bool x_token.flag), .sl (jy x_list)]
def jy:List zb->List (List PV)
 |[]=>[]
 |v::r=>zA v::jy r
end
theorem yS: ∀(l:List zb),jy l=l.map zA
 |[]=>by rw[jy];rfl
 |v::r=>by rw[jy,yS r];rfl
def Zz(x:Zx):List PV:=[.str x.name, .sl (x.value.map zA), .at (.bool x.important)]
mutual
def zk:zw->List PV
 |⟨x_kind,x_name,x_num,x_decl,x_list⟩=>[.at (.int .u8 x_kind), .str x_name, .at (.int .i64 x_num), .str x_decl.name, .sl (x_decl.value.map zA), .at (.bool x_decl.important), .sl (Uy x_list)]
def Uy:List zw->List (List PV)
 |[]=>[]
 |v::r=>zk v::Uy r
end
theorem MS: ∀(l:List zw),Uy l=l.map zk
 |[]=>by rw[Uy];rfl
 |v::r=>by rw[Uy,MS r];rfl
mutual
def zB:zM->List PV
 |⟨x_kind,x_selectors,x_decls,x_cond,x_names,x_rules⟩=>[.at (.int .u8 x_kind), .sl (x_selectors.map zh), .sl (x_decls.map Zz), .at (.int .u8 x_cond.kind), .str x_cond.name, .at (.int .i64 x_cond.num), .str x_cond.decl.name, .sl (x_cond.decl.value.map zA), .at (.bool x_cond.decl.important), .sl (x_cond.list.map zk), .sl (x_names.map (fun y=>[.sl (y.map (fun y=>[.str y]))])), .sl (Ty x_rules)]
def Ty:List zM->List (List PV)
 |[]=>[]
 |v::r=>zB v::Ty r
end
theorem KS: ∀(l:List zM),Ty l=l.map zB
 |[]=>by rw[Ty];rfl
 |v::r=>by rw[Ty,KS r];rfl
def zCT(x:zc1):List PV:=[.sl (x.rules.map zB)]
def zq3(x:zY):List PV:=[.sl (x.l.map YJ)]
def zpF(x:zx):List PV:=[.sl (x.v.map zA)]
def zq4(x:ZG):List PV:=[.at (.int .i64 x.depth), .at (.int .i64 x.tokens), .at (.bool x.bad)]
def zq5(x:za5):List PV:=[.at (.int .u8 x.kind), .str x.name, .at (.int .u8 x.op), .str x.value, .at (.bool x.fold), .at (.int .i64 x.anb.a), .at (.int .i64 x.anb.b), .at (.bool x.of_)]
def zpG(x:Zo):List PV:=[.at (.int .i64 x.deep), .at (.bool x.has)]
def zhn(x:qg):List PV:=[.at (.int .i64 x.x), .at (.int .i64 x.y), .at (.bool x.signed), .at (.int .u8 x.code)]
def zm3(x:zg):List PV:=[.at (.int .i64 x.deep), .at (.bool x.has)]
def zlX(x:zu):List PV:=[.sl (x.v.map zA), .at (.int .i64 x.at_)]
def zpH(x:zG):List PV:=[.at (.int .i64 x.rules), .at (.int .i64 x.depth), .at (.bool x.bad)]
def zoj(x:zq):List PV:=[.at (.int .i64 x.room), .at (.int .i64 x.constructs)]
def zm4(x:ze):List PV:=[.str x.s, .at (.int .i64 x.at_)]
theorem FL(x:zm):zh x=[.at (.int .u8 x.lead), .sl (x.parts.map z8), .sl (x.combs.map (fun y=>[.at (.int .u8 y.toNat)]))]:=by cases x;simp only[zh,TG,jG,WG]
theorem IL(x:zO):z8 x=[.str x.tag, .sl (x.simples.map zW)]:=by cases x;simp only[z8,TG,jG,WG]
theorem vK(x:zI):zW x=[.at (.int .u8 x.kind), .str x.name, .at (.int .u8 x.op), .str x.value, .at (.bool x.fold), .at (.int .i64 x.anb.a), .at (.int .i64 x.anb.b), .at (.bool x.of_), .sl (x.list.map zh)]:=by cases x;simp only[zW,TG,jG,WG]
theorem oK(x:zb):zA x=[.at (.int .u8 x.token.kind), .str x.token.text, .at (.int .i64 x.token.num), .str x.token.unit, .at (.bool x.token.flag), .sl (x.list.map zA)]:=by cases x;simp only[zA,yS]
theorem jK(x:zw):zk x=[.at (.int .u8 x.kind), .str x.name, .at (.int .i64 x.num), .str x.decl.name, .sl (x.decl.value.map zA), .at (.bool x.decl.important), .sl (x.list.map zk)]:=by cases x;simp only[zk,MS]
theorem iK(x:zM):zB x=[.at (.int .u8 x.kind), .sl (x.selectors.map zh), .sl (x.decls.map Zz), .at (.int .u8 x.cond.kind), .str x.cond.name, .at (.int .i64 x.cond.num), .str x.cond.decl.name, .sl (x.cond.decl.value.map zA), .at (.bool x.cond.decl.important), .sl (x.cond.list.map zk), .sl (x.names.map (fun y=>[.sl (y.map (fun y=>[.str y]))])), .sl (x.rules.map zB)]:=by cases x;simp only[zB,KS]
def fC(n:Nat):(c:TC)->Ct c->List PV
 | .bool,(x:Bool)=>[.at (.bool x)]
 | .int_i32,(x:Int)=>[.at (.int .i32 x)]
 | .int_i64,(x:Int)=>[.at (.int .i64 x)]
 | .int_u32,(x:Int)=>[.at (.int .u32 x)]
 | .int_u64,(x:Int)=>[.at (.int .u64 x)]
 | .int_u8,(x:UInt8)=>[.at (.int .u8 x.toNat)]
 | .sl_113,(x:List zm)=>[.sl (x.map zh)]
 | .sl_116,(x:List zO)=>[.sl (x.map z8)]
 | .sl_120,(x:List zI)=>[.sl (x.map zW)]
 | .sl_2,(x:List Int)=>[.sl (x.map (fun y=>[.at (.int .i64 y)]))]
 | .sl_37,(x:List (List zb))=>[.sl (x.map (fun y=>[.sl (y.map zA)]))]
 | .sl_39,(x:List Zx)=>[.sl (x.map Zz)]
 | .sl_42,(x:List zw)=>[.sl (x.map zk)]
 | .sl_45,(x:List zM)=>[.sl (x.map zB)]
 | .sl_5,(x:List UInt8)=>[.sl (x.map (fun y=>[.at (.int .u8 y.toNat)]))]
 | .sl_51,(x:List (List Str))=>[.sl (x.map (fun y=>[.sl (y.map (fun y=>[.str y]))]))]
 | .sl_70,(x:List ZK)=>[.sl (x.map JS)]
 | .sl_72,(x:List zf)=>[.sl (x.map YJ)]
 | .sl_74,(x:List zb)=>[.sl (x.map zA)]
 | .sl_9,(x:List Str)=>[.sl (x.map (fun y=>[.str y]))]
 | .st_VAnb,(x:VAnb)=>zH2 x
 | .st_VArr2_i64,(x:ZK)=>JS x
 | .st_VComplex,(x:zm)=>zh x
 | .st_VCompound,(x:zO)=>z8 x
 | .st_VCond,(x:zw)=>zk x
 | .st_VDecl,(x:Zx)=>Zz x
 | .st_VRule,(x:zM)=>zB x
 | .st_VSheet,(x:zc1)=>zCT x
 | .st_VSimple,(x:zI)=>zW x
 | .st_VToken,(x:zf)=>YJ x
 | .st_VValue,(x:zb)=>zA x
 | .st_Vanb_reader,(x:zY)=>zq3 x
 | .st_Vcond_reader,(x:zx)=>zpF x
 | .st_Vnest_found,(x:ZG)=>zq4 x
 | .st_Vref08_base,(x:za5)=>zq5 x
 | .st_Vref08_place,(x:Zo)=>zpG x
 | .st_Vruntime_boundsError,(x:qg)=>zhn x
 | .st_Vseltext_place,(x:zg)=>zm3 x
 | .st_Vseltext_reader,(x:zu)=>zlX x
 | .st_Vsheet_found,(x:zG)=>zpH x
 | .st_Vsheet_parser,(x:zq)=>zoj x
 | .st_Vtoken_scanner,(x:ze)=>zm4 x
 | .str,(x:Str)=>[.str x]
 | .other,_=>List.replicate n (.at (.slice none 0 0))
def eC(n:Nat):(c:TC)->Ct c->List (EV Cn)
 | .bool,(x:Bool)=>[.bool x]
 | .int_i32,(x:Int)=>[.int .i32 x]
 | .int_i64,(x:Int)=>[.int .i64 x]
 | .int_u32,(x:Int)=>[.int .u32 x]
 | .int_u64,(x:Int)=>[.int .u64 x]
 | .int_u8,(x:UInt8)=>[.int .u8 (x.toNat:Int)]
 | .sl_113,(x:List zm)=>[.sl 113 x]
 | .sl_116,(x:List zO)=>[.sl 116 x]
 | .sl_120,(x:List zI)=>[.sl 120 x]
 | .sl_2,(x:List Int)=>[.sl 2 x]
 | .sl_37,(x:List (List zb))=>[.sl 37 x]
 | .sl_39,(x:List Zx)=>[.sl 39 x]
 | .sl_42,(x:List zw)=>[.sl 42 x]
 | .sl_45,(x:List zM)=>[.sl 45 x]
 | .sl_5,(x:List UInt8)=>[.sl 5 x]
 | .sl_51,(x:List (List Str))=>[.sl 51 x]
 | .sl_70,(x:List ZK)=>[.sl 70 x]
 | .sl_72,(x:List zf)=>[.sl 72 x]
 | .sl_74,(x:List zb)=>[.sl 74 x]
 | .sl_9,(x:List Str)=>[.sl 9 x]
 | .st_VAnb,(x:VAnb)=>[.int .i64 x.a, .int .i64 x.b]
 | .st_VArr2_i64,(x:ZK)=>[.int .i64 x.e0, .int .i64 x.e1]
 | .st_VComplex,(x:zm)=>[.int .u8 x.lead, .sl 116 x.parts, .sl 5 x.combs]
 | .st_VCompound,(x:zO)=>[.str x.tag, .sl 120 x.simples]
 | .st_VCond,(x:zw)=>[.int .u8 x.kind, .str x.name, .int .i64 x.num, .str x.decl.name, .sl 74 x.decl.value, .bool x.decl.important, .sl 42 x.list]
 | .st_VDecl,(x:Zx)=>[.str x.name, .sl 74 x.value, .bool x.important]
 | .st_VRule,(x:zM)=>[.int .u8 x.kind, .sl 113 x.selectors, .sl 39 x.decls, .int .u8 x.cond.kind, .str x.cond.name, .int .i64 x.cond.num, .str x.cond.decl.name, .sl 74 x.cond.decl.value, .bool x.cond.decl.important, .sl 42 x.cond.list, .sl 51 x.names, .sl 45 x.rules]
 | .st_VSheet,(x:zc1)=>[.sl 45 x.rules]
 | .st_VSimple,(x:zI)=>[.int .u8 x.kind, .str x.name, .int .u8 x.op, .str x.value, .bool x.fold, .int .i64 x.anb.a, .int .i64 x.anb.b, .bool x.of_, .sl 113 x.list]
 | .st_VToken,(x:zf)=>[.int .u8 x.kind, .str x.text, .int .i64 x.num, .str x.unit, .bool x.flag]
 | .st_VValue,(x:zb)=>[.int .u8 x.token.kind, .str x.token.text, .int .i64 x.token.num, .str x.token.unit, .bool x.token.flag, .sl 74 x.list]
 | .st_Vanb_reader,(x:zY)=>[.sl 72 x.l]
 | .st_Vcond_reader,(x:zx)=>[.sl 74 x.v]
 | .st_Vnest_found,(x:ZG)=>[.int .i64 x.depth, .int .i64 x.tokens, .bool x.bad]
 | .st_Vref08_base,(x:za5)=>[.int .u8 x.kind, .str x.name, .int .u8 x.op, .str x.value, .bool x.fold, .int .i64 x.anb.a, .int .i64 x.anb.b, .bool x.of_]
 | .st_Vref08_place,(x:Zo)=>[.int .i64 x.deep, .bool x.has]
 | .st_Vruntime_boundsError,(x:qg)=>[.int .i64 x.x, .int .i64 x.y, .bool x.signed, .int .u8 x.code]
 | .st_Vseltext_place,(x:zg)=>[.int .i64 x.deep, .bool x.has]
 | .st_Vseltext_reader,(x:zu)=>[.sl 74 x.v, .int .i64 x.at_]
 | .st_Vsheet_found,(x:zG)=>[.int .i64 x.rules, .int .i64 x.depth, .bool x.bad]
 | .st_Vsheet_parser,(x:zq)=>[.int .i64 x.room, .int .i64 x.constructs]
 | .st_Vtoken_scanner,(x:ze)=>[.str x.s, .int .i64 x.at_]
 | .str,(x:Str)=>[.str x]
 | .other,_=>List.replicate n .nil
def mC:(c:TC)->List (EV Cn)->Option (Ct c)
 | .bool=>mF Xh mE
 | .int_i32=>mF (dInt .i32) mE
 | .int_i64=>mF (dInt .i64) mE
 | .int_u32=>mF (dInt .u32) mE
 | .int_u64=>mF (dInt .u64) mE
 | .int_u8=>mB
 | .sl_113=>mF (dSl 113) mE
 | .sl_116=>mF (dSl 116) mE
 | .sl_120=>mF (dSl 120) mE
 | .sl_2=>mF (dSl 2) mE
 | .sl_37=>mF (dSl 37) mE
 | .sl_39=>mF (dSl 39) mE
 | .sl_42=>mF (dSl 42) mE
 | .sl_45=>mF (dSl 45) mE
 | .sl_5=>mF (dSl 5) mE
 | .sl_51=>mF (dSl 51) mE
 | .sl_70=>mF (dSl 70) mE
 | .sl_72=>mF (dSl 72) mE
 | .sl_74=>mF (dSl 74) mE
 | .sl_9=>mF (dSl 9) mE
 | .st_VAnb=>mF (dInt .i64) fun x0=>mF (dInt .i64) fun x1=>mE (⟨x0,x1⟩:VAnb)
 | .st_VArr2_i64=>mF (dInt .i64) fun x0=>mF (dInt .i64) fun x1=>mE (⟨x0,x1⟩:ZK)
 | .st_VComplex=>mF (dInt .u8) fun x0=>mF (dSl 116) fun x1=>mF (dSl 5) fun x2=>mE (⟨x0,x1,x2⟩:zm)
 | .st_VCompound=>mF dStr fun x0=>mF (dSl 120) fun x1=>mE (⟨x0,x1⟩:zO)
 | .st_VCond=>mF (dInt .u8) fun x0=>mF dStr fun x1=>mF (dInt .i64) fun x2=>mF dStr fun x3=>mF (dSl 74) fun x4=>mF Xh fun x5=>mF (dSl 42) fun x6=>mE (⟨x0,x1,x2,(⟨x3,x4,x5⟩:Zx),x6⟩:zw)
 | .st_VDecl=>mF dStr fun x0=>mF (dSl 74) fun x1=>mF Xh fun x2=>mE (⟨x0,x1,x2⟩:Zx)
 | .st_VRule=>mF (dInt .u8) fun x0=>mF (dSl 113) fun x1=>mF (dSl 39) fun x2=>mF (dInt .u8) fun x3=>mF dStr fun x4=>mF (dInt .i64) fun x5=>mF dStr fun x6=>mF (dSl 74) fun x7=>mF Xh fun x8=>mF (dSl 42) fun x9=>mF (dSl 51) fun x10=>mF (dSl 45) fun x11=>mE (⟨x0,x1,x2,(⟨x3,x4,x5,(⟨x6,x7,x8⟩:Zx),x9⟩:zw),x10,x11⟩:zM)
 | .st_VSheet=>mF (dSl 45) fun x0=>mE (⟨x0⟩:zc1)
 | .st_VSimple=>mF (dInt .u8) fun x0=>mF dStr fun x1=>mF (dInt .u8) fun x2=>mF dStr fun x3=>mF Xh fun x4=>mF (dInt .i64) fun x5=>mF (dInt .i64) fun x6=>mF Xh fun x7=>mF (dSl 113) fun x8=>mE (⟨x0,x1,x2,x3,x4,(⟨x5,x6⟩:VAnb),x7,x8⟩:zI)
 | .st_VToken=>mF (dInt .u8) fun x0=>mF dStr fun x1=>mF (dInt .i64) fun x2=>mF dStr fun x3=>mF Xh fun x4=>mE (⟨x0,x1,x2,x3,x4⟩:zf)
 | .st_VValue=>mF (dInt .u8) fun x0=>mF dStr fun x1=>mF (dInt .i64) fun x2=>mF dStr fun x3=>mF Xh fun x4=>mF (dSl 74) fun x5=>mE (⟨(⟨x0,x1,x2,x3,x4⟩:zf),x5⟩:zb)
 | .st_Vanb_reader=>mF (dSl 72) fun x0=>mE (⟨x0⟩:zY)
 | .st_Vcond_reader=>mF (dSl 74) fun x0=>mE (⟨x0⟩:zx)
 | .st_Vnest_found=>mF (dInt .i64) fun x0=>mF (dInt .i64) fun x1=>mF Xh fun x2=>mE (⟨x0,x1,x2⟩:ZG)
 | .st_Vref08_base=>mF (dInt .u8) fun x0=>mF dStr fun x1=>mF (dInt .u8) fun x2=>mF dStr fun x3=>mF Xh fun x4=>mF (dInt .i64) fun x5=>mF (dInt .i64) fun x6=>mF Xh fun x7=>mE (⟨x0,x1,x2,x3,x4,(⟨x5,x6⟩:VAnb),x7⟩:za5)
 | .st_Vref08_place=>mF (dInt .i64) fun x0=>mF Xh fun x1=>mE (⟨x0,x1⟩:Zo)
 | .st_Vruntime_boundsError=>mF (dInt .i64) fun x0=>mF (dInt .i64) fun x1=>mF Xh fun x2=>mF (dInt .u8) fun x3=>mE (⟨x0,x1,x2,x3⟩:qg)
 | .st_Vseltext_place=>mF (dInt .i64) fun x0=>mF Xh fun x1=>mE (⟨x0,x1⟩:zg)
 | .st_Vseltext_reader=>mF (dSl 74) fun x0=>mF (dInt .i64) fun x1=>mE (⟨x0,x1⟩:zu)
 | .st_Vsheet_found=>mF (dInt .i64) fun x0=>mF (dInt .i64) fun x1=>mF Xh fun x2=>mE (⟨x0,x1,x2⟩:zG)
 | .st_Vsheet_parser=>mF (dInt .i64) fun x0=>mF (dInt .i64) fun x1=>mE (⟨x0,x1⟩:zq)
 | .st_Vtoken_scanner=>mF dStr fun x0=>mF (dInt .i64) fun x1=>mE (⟨x0,x1⟩:ze)
 | .str=>mF dStr mE
 | .other=>fun _=>none
def bC:(c:TC)->Option ((List UInt8->List (Ct c))×(List (Ct c)->List UInt8))
 | .int_u8=>some (fun l=>l,fun l=>l)
 |_=>none
noncomputable def I:Ip:=⟨Cn,fun t=>dC (tc t),fun t=>eC (Tryz.prog.cellsOf t) (tc t),fun t=>mC (tc t),fun t=>fC (Tryz.prog.cellsOf t) (tc t),fun t=>bC (tc t)⟩
theorem zNb:(tab.all fun p=>Nat.beq (Tryz.prog.cellsOf p.1) (size p.2))=true:=by kernel_rfl
theorem zHH(t:Nat)(h:tc t≠ .other):Tryz.prog.cellsOf t=size (tc t):=by
 unfold tc at h ⊢;cases hl:lk tab t with
 |none=>rw[hl]at h;exact absurd rfl h
 |some c=> simp only;exact Oa (Rb.1 zNb _ (Eh hl))
theorem zKS(n:Nat)(c:TC)(cs:List (EV Cn))(x:Ct c)(h:mC c cs=some x):All2 (Dec I) cs (fC n c x):=by
 cases c
 case other=>cases h
 case int_u8=>exact zNt h
 all_goals
  simp only[mC]at h
  repeat
   obtain⟨_,_,_,rfl,hd,h⟩:=zMn h
   first|replace hd:=OX (I:=I) hd|replace hd:=zKp (I:=I) hd|replace hd:=zHS (I:=I) hd|replace hd:=zL6 (I:=I) hd
  obtain⟨rfl,rfl⟩:=zMm h;simp only[fC,FL,IL,vK,oK,jK,iK]
  repeat first|exact .nil|assumption|refine .cons ?_ ?_
theorem fe(n:Nat)(c:TC)(x:Ct c):fC n c x=(eC n c x).map (pvE I):=by
 cases c
 case other=>show List.replicate n _=(List.replicate n EV.nil).map (pvE I);rw[List.map_replicate];rfl
 all_goals first|exact FL x|exact IL x|exact vK x|exact oK x|exact jK x|exact iK x|rfl
theorem zL7(n:Nat)(c:TC)(x:Ct c)(h:c≠ .other->n=size c):(eC n c x).length=n:=by
 cases c
 case other=>simp[eC]
 all_goals (rw[h (by simp)];rfl)
theorem zKt(n:Nat)(c:TC)(x:Ct c):(eC n c x).all (Gm (I:=I))=true:=by
 cases c
 case other=>exact Rb.2 fun v hv=>by rw[(List.mem_replicate.1 hv).2];rfl
 all_goals rfl
theorem zNc:(tab.all fun p=>match p.2 with| .int_u8=>(match kdOf Tryz.prog p.1 with| .int .u8=>true|_=>false)|_=>true)=true:=by kernel_rfl
theorem zNs(t:Nat)(h:tc t= .int_u8):kdOf Tryz.prog t= .int .u8:=by
 unfold tc at h;cases hl:lk tab t with
 |none=>rw[hl]at h;cases h
 |some c=>
  rw[hl]at h;have h:c= .int_u8:=h;subst h;have:=Rb.1 zNc _ (Eh hl);simp only at this;split at this
  ·assumption
  ·cases this
theorem zKd(n:Nat): ∀(c:TC) (p:(List UInt8->List (Ct c))×(List (Ct c)->List UInt8)),bC c=some p->(∀l,(p.1 l).map (fC n c)=l.map fun b=>[PV.at (.int .u8 b.toNat)])/\(∀l,l.map (fC n c)=(p.2 l).map fun b=>[PV.at (.int .u8 b.toNat)])/\c= .int_u8:=by
 intro c p h;cases c
 case int_u8=>cases h;exact⟨fun l=>rfl,fun l=>rfl,rfl⟩
 all_goals cases h
theorem zL0(t:Nat)(p:(List UInt8->List (I.C t))×(List (I.C t)->List UInt8))(h:I.byt t=some p):(∀l,(p.1 l).map (I.full t)=l.map fun b=>[PV.at (.int .u8 b.toNat)])/\(∀l,l.map (I.full t)=(p.2 l).map fun b=>[PV.at (.int .u8 b.toNat)])/\kdOf Tryz.prog t= .int .u8:=by obtain⟨h1,h2,h3⟩:=zKd (Tryz.prog.cellsOf t) (tc t) p h;exact⟨h1,h2,zNs t h3⟩
theorem ipOK:IpOK Tryz.prog I where
 len:=fun t x=>by show(fC _ _ x).length=_;exact(congrArg List.length (fe _ (tc t) x)).trans ((Nb ..).trans (zL7 _ (tc t) x (zHH t)))
 exp:=fun t x=>fe _ _ x
 pur:=fun t x v hv=>Rb.1 (zKt _ _ x) v hv
 made:=fun t cs x h=>decs (zKS _ _ cs x h)
 byt:=zL0
def tl:List Nat:=[2,3,4,5,6,7,9,11,21,23,25,26,35,36,37,39,40,42,43,45,51,52,56,62,65,70,72,74,77,79,96,105,111,113,114,116,118,120,124,128,139,147,161,163,205,207,217,241,250,275,285,308,310,347,349,360]
noncomputable def T:TT:=tl.map fun t=>(t,ti Tryz.prog t)
def FK:List (Nat×List Kd):=[(72,[.int .u8, .str, .int .i64, .str, .bool]),(118,[.int .i64, .int .i64]),(241,[.int .u8, .str, .int .u8, .str, .bool, .int .i64, .int .i64, .bool])]
theorem tok:TOK Tryz.prog T FK:=jM (l:=tl) (by
 intro p hp;simp only[FK,Kb,Ye,or_false]at hp;rcases hp with rfl|rfl|rfl<;>kernel_rfl)
theorem mixed:Tryz.prog.follows .mixedOrders=true:=by kernel_rfl
noncomputable def body(f:Go.Func):Code:=match f.body with|some c=>c|none=> .skip
noncomputable def rsl(f:Go.Func):List ResultVar:=f.results.toList
end Go.Lv.VT
