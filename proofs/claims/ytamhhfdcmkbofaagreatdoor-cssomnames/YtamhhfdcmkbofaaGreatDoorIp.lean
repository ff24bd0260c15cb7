/- What stands for the values of types. -/
import Derived.Test.YtamhhfdcmkbofaaGreatDoorProg
import Derived.Test.YtamhhfdcmkbofaaGreatDoorLf
import Derived.Test.YtamhhfdcmkbofaaGreatDoorTy
import Derived.KernelRfl
set_option linter.unusedSimpArgs false
set_option linter.unusedVariables false
namespace Go.Lv.VT
set_option maxRecDepth 100000
open Go.Proofs
inductive TC where
 |bool|int_i32|int_i64|int_u32|int_u64|int_u8|sl_129|sl_133|sl_2|sl_326|sl_37|sl_39|sl_42|sl_45|sl_5|sl_50|sl_68|sl_71|sl_74|sl_78|sl_9|st_VAnb|st_VArr12_str|st_VArr2_str|st_VArr5_str|st_VArr7_str|st_VComplex|st_VCompound|st_VCond|st_VDecl|st_VKept|st_VRule|st_VSheet|st_VSimple|st_VStore|st_VToken|st_VValue|st_Vcond_reader|st_Vglue_start|st_Vnest_found|st_Vref08_base|st_Vruntime_boundsError|st_Vseltext_place|st_Vseltext_reader|st_Vsheet_found|st_Vsheet_parser|st_Vtoken_scanner|str|other
def Ct:TC->Type
 | .bool=>Bool| .int_i32=>Int| .int_i64=>Int| .int_u32=>Int| .int_u64=>Int| .int_u8=>UInt8| .sl_129=>List zt| .sl_133=>List ze| .sl_2=>List Int| .sl_326=>List Zc| .sl_37=>List (List ze)| .sl_39=>List zQ| .sl_42=>List zm| .sl_45=>List zA| .sl_5=>List UInt8| .sl_50=>List (List Str)| .sl_68=>List qE| .sl_71=>List zB| .sl_74=>List zh| .sl_78=>List zy| .sl_9=>List Str| .st_VAnb=>VAnb| .st_VArr12_str=>qX| .st_VArr2_str=>zcz| .st_VArr5_str=>zcA| .st_VArr7_str=>zcB| .st_VComplex=>zh| .st_VCompound=>zB| .st_VCond=>zm| .st_VDecl=>zQ| .st_VKept=>qE| .st_VRule=>zA| .st_VSheet=>Zi| .st_VSimple=>zy| .st_VStore=>zZ| .st_VToken=>zt| .st_VValue=>ze| .st_Vcond_reader=>zo| .st_Vglue_start=>Zc| .st_Vnest_found=>Zd| .st_Vref08_base=>qF| .st_Vruntime_boundsError=>Zu| .st_Vseltext_place=>zg| .st_Vseltext_reader=>zk| .st_Vsheet_found=>zK| .st_Vsheet_parser=>zx| .st_Vtoken_scanner=>zb| .str=>Str| .other=>Unit
def tab:List (Nat×TC):=[(2, .int_i64),(3, .int_i64),(4, .bool),(5, .int_u8),(6, .int_u8),(7, .st_Vruntime_boundsError),(9, .str),(11, .str),(21, .int_i32),(22, .sl_68),(24, .st_VStore),(27, .int_i64),(30, .sl_5),(34, .sl_45),(35, .sl_74),(36, .sl_39),(37, .sl_133),(39, .st_VDecl),(40, .sl_42),(42, .st_VCond),(43, .sl_50),(45, .st_VRule),(49, .st_VSheet),(50, .sl_9),(68, .st_VKept),(69, .sl_78),(71, .st_VCompound),(72, .sl_71),(74, .st_VComplex),(76, .st_VAnb),(78, .st_VSimple),(92, .st_Vsheet_parser),(104, .sl_129),(113, .st_Vsheet_found),(129, .st_VToken),(131, .sl_37),(133, .st_VValue),(167, .st_Vtoken_scanner),(183, .st_Vseltext_place),(187, .st_Vnest_found),(230, .st_Vcond_reader),(243, .st_VArr5_str),(261, .int_u32),(292, .st_VArr7_str),(293, .st_VArr2_str),(305, .int_u64),(324, .sl_326),(326, .st_Vglue_start),(329, .sl_2),(331, .int_u64),(361, .st_Vseltext_reader),(368, .st_VArr12_str),(371, .st_Vref08_base)]
def tc(t:Nat):TC:=match lk tab t with|some c=>c|none=> .other
def Cn(t:Nat):Type:=Ct (tc t)
def dC:(c:TC)->Ct c
 | .bool=>(default:Bool)| .int_i32=>(default:Int)| .int_i64=>(default:Int)| .int_u32=>(default:Int)| .int_u64=>(default:Int)| .int_u8=>(default:UInt8)| .sl_129=>(default:List zt)| .sl_133=>(default:List ze)| .sl_2=>(default:List Int)| .sl_326=>(default:List Zc)| .sl_37=>(default:List (List ze))| .sl_39=>(default:List zQ)| .sl_42=>(default:List zm)| .sl_45=>(default:List zA)| .sl_5=>(default:List UInt8)| .sl_50=>(default:List (List Str))| .sl_68=>(default:List qE)| .sl_71=>(default:List zB)| .sl_74=>(default:List zh)| .sl_78=>(default:List zy)| .sl_9=>(default:List Str)| .st_VAnb=>(default:VAnb)| .st_VArr12_str=>(default:qX)| .st_VArr2_str=>(default:zcz)| .st_VArr5_str=>(default:zcA)| .st_VArr7_str=>(default:zcB)| .st_VComplex=>(default:zh)| .st_VCompound=>(default:zB)| .st_VCond=>(default:zm)| .st_VDecl=>(default:zQ)| .st_VKept=>(default:qE)| .st_VRule=>(default:zA)| .st_VSheet=>(default:Zi)| .st_VSimple=>(default:zy)| .st_VStore=>(default:zZ)| .st_VToken=>(default:zt)| .st_VValue=>(default:ze)| .st_Vcond_reader=>(default:zo)| .st_Vglue_start=>(default:Zc)| .st_Vnest_found=>(default:Zd)| .st_Vref08_base=>(default:qF)| .st_Vruntime_boundsError=>(default:Zu)| .st_Vseltext_place=>(default:zg)| .st_Vseltext_reader=>(default:zk)| .st_Vsheet_found=>(default:zK)| .st_Vsheet_parser=>(default:zx)| .st_Vtoken_scanner=>(default:zb)| .str=>(default:Str)| .other=>()
def size:TC->Nat
 | .st_VAnb=>2| .st_VArr12_str=>12| .st_VArr2_str=>2| .st_VArr5_str=>5| .st_VArr7_str=>7| .st_VComplex=>3| .st_VCompound=>2| .st_VCond=>7| .st_VDecl=>3| .st_VKept=>4| .st_VRule=>12| .st_VSimple=>9| .st_VStore=>2| .st_VToken=>5| .st_VValue=>6| .st_Vglue_start=>2| .st_Vnest_found=>3| .st_Vref08_base=>8| .st_Vruntime_boundsError=>4| .st_Vseltext_place=>2| .st_Vseltext_reader=>2| .st_Vsheet_found=>3| .st_Vsheet_parser=>2| .st_Vtoken_scanner=>2|_=>1
def EI(x:VAnb):List PV:=[.at (.int .i64 x.a), .at (.int .i64 x.b)]
def lQ(x:qX):List PV:=[.str x.e0, .str x.e1, .str x.e2, .str x.e3, .str x.e4, .str x.e5, .str x.e6, .str x.e7, .str x.e8, .str x.e9, .str x.e10, .str x.e11]
def CO(x:zcz):List PV:=[.str x.e0, .str x.e1]
def BO(x:zcA):List PV:=[.str x.e0, .str x.e1, .str x.e2, .str x.e3, .str x.e4]
def AO(x:zcB):List PV:=[.str x.e0, .str x.e1, .str x.e2, .str x.e3, .str x.e4, .str x.e5, .str x.e6]
mutual
def qp:zh->List PV
 |⟨x_lead,x_parts,x_combs⟩=>[.at (.int .u8 x_lead), .sl (QP x_parts), .sl (x_combs.map (fun y=>[.at (.int .u8 y.toNat)]))]
def uj:List zh->List (List PV)
 |[]=>[]
 |v::r=>qp v::uj r
def qw:zB->List PV
 |⟨x_tag,x_simples⟩=>[.str x_tag, .sl (Xj x_simples)]
def QP:List zB->List (List PV)
 |[]=>[]
 |v::r=>qw v::QP r
def Qm:zy->List PV
 |⟨x_kind,x_name,x_op,x_value,x_fold,x_anb,x_of_,x_list⟩=>[.at (.int .u8 x_kind), .str x_name, .at (.int .u8 x_op), .str x_value, .at (.bool x_fold), .at (.int .i64 x_anb.a), .at (.int .i64 x_anb.b), .at (.bool x_of_), .sl (uj x_list)]
def Xj:List zy->List (List PV)
 |[]=>[]
 |v::r=>Qm v::Xj r
end
theorem ZU: ∀(l:List zh),uj l=l.map qp
 |[]=>by rw[uj];rfl
 |v::r=>by rw[uj,ZU r];rfl
theorem ZL: ∀(l:List zB),QP l=l.map qw
 |[]=>by rw[QP];rfl
 |v::r=>by rw[QP,ZL r];rfl
theorem Z8: ∀(l:List zy),Xj l=l.map Qm
 |[]=>by rw[Xj];rfl
 |v::r=>by rw[Xj,Z8 r];rfl
def AB(x:zt):List PV:=[.at (.int .u8 x.kind), .str x.text, .at (.int .i64 x.num), .str x.unit, .at (.bool x.flag)]
mutual
def ZR:ze->List PV
 |⟨x_token,x_list⟩=>[.at (.int .u8 x_token.kind), .str x_token.text, .at (.int .i64 x_token.num), .str x_token.unit, .at (.bool x_token.flag), .sl (Sj x_list)]
def Sj:List ze->List (List PV)
 |[]=>[]
 |v::r=>ZR v::Sj r
end
theorem Wv: ∀(l:List ze),Sj l=l.map ZR
 |[]=>by rw[Sj];rfl
 |v::r=>by rw[Sj,Wv r];rfl
def Sr(x:zQ):List PV:=[.str x.name, .sl (x.value.map ZR), .at (.bool x.important)]
mutual
def Yf:zm->List PV
 |⟨x_kind,x_name,x_num,x_decl,x_list⟩=>[.at (.int .u8 x_kind), .str x_name, .at (.int .i64 x_num), .str x_decl.name, .sl (x_decl.value.map ZR), .at (.bool x_decl.important), .sl (Oj x_list)]
def Oj:List zm->List (List PV)
 |[]=>[]
 |v::r=>Yf v::Oj r
end
theorem Nv: ∀(l:List zm),Oj l=l.map Yf
 |[]=>by rw[Oj];rfl
 |v::r=>by rw[Oj,Nv r];rfl
mutual
def QQ:zA->List PV
 |⟨x_kind,x_selectors,x_decls,x_cond,x_names,x_rules⟩=>[.at (.int .u8 x_kind), .sl (x_selectors.map qp), .sl (x_decls.map Sr), .at (.int .u8 x_cond.kind), .str x_cond.name, .at (.int .i64 x_cond.num), .str x_cond.decl.name, .sl (x_cond.decl.value.map ZR), .at (.bool x_cond.decl.important), .sl (x_cond.list.map Yf), .sl (x_names.map (fun y=>[.sl (y.map (fun y=>[.str y]))])), .sl (Nj x_rules)]
def Nj:List zA->List (List PV)
 |[]=>[]
 |v::r=>QQ v::Nj r
end
theorem Sv: ∀(l:List zA),Nj l=l.map QQ
 |[]=>by rw[Nj];rfl
 |v::r=>by rw[Nj,Sv r];rfl
def ML(x:Zi):List PV:=[.sl (x.rules.map QQ)]
def Nr(x:qE):List PV:=[.at (.int .i64 x.number), .at (.int .u8 x.origin), .str x.site, .sl (x.sheet.rules.map QQ)]
def KL(x:zZ):List PV:=[.sl (x.sheets.map Nr), .at (.int .i64 x.next)]
def pR(x:zo):List PV:=[.sl (x.v.map ZR)]
def gD(x:Zc):List PV:=[.at (.int .i64 x.token), .at (.int .i64 x.at_)]
def uQ(x:Zd):List PV:=[.at (.int .i64 x.depth), .at (.int .i64 x.tokens), .at (.bool x.bad)]
def tQ(x:qF):List PV:=[.at (.int .u8 x.kind), .str x.name, .at (.int .u8 x.op), .str x.value, .at (.bool x.fold), .at (.int .i64 x.anb.a), .at (.int .i64 x.anb.b), .at (.bool x.of_)]
def HY(x:Zu):List PV:=[.at (.int .i64 x.x), .at (.int .i64 x.y), .at (.bool x.signed), .at (.int .u8 x.code)]
def PT(x:zg):List PV:=[.at (.int .i64 x.deep), .at (.bool x.has)]
def iU(x:zk):List PV:=[.sl (x.v.map ZR), .at (.int .i64 x.at_)]
def nR(x:zK):List PV:=[.at (.int .i64 x.rules), .at (.int .i64 x.depth), .at (.bool x.bad)]
def vS(x:zx):List PV:=[.at (.int .i64 x.room), .at (.int .i64 x.constructs)]
def OT(x:zb):List PV:=[.str x.s, .at (.int .i64 x.at_)]
def fC(n:Nat):(c:TC)->Ct c->List PV
 | .bool,(x:Bool)=>[.at (.bool x)]
 | .int_i32,(x:Int)=>[.at (.int .i32 x)]
 | .int_i64,(x:Int)=>[.at (.int .i64 x)]
 | .int_u32,(x:Int)=>[.at (.int .u32 x)]
 | .int_u64,(x:Int)=>[.at (.int .u64 x)]
 | .int_u8,(x:UInt8)=>[.at (.int .u8 x.toNat)]
 | .sl_129,(x:List zt)=>[.sl (x.map AB)]
 | .sl_133,(x:List ze)=>[.sl (x.map ZR)]
 | .sl_2,(x:List Int)=>[.sl (x.map (fun y=>[.at (.int .i64 y)]))]
 | .sl_326,(x:List Zc)=>[.sl (x.map gD)]
 | .sl_37,(x:List (List ze))=>[.sl (x.map (fun y=>[.sl (y.map ZR)]))]
 | .sl_39,(x:List zQ)=>[.sl (x.map Sr)]
 | .sl_42,(x:List zm)=>[.sl (x.map Yf)]
 | .sl_45,(x:List zA)=>[.sl (x.map QQ)]
 | .sl_5,(x:List UInt8)=>[.sl (x.map (fun y=>[.at (.int .u8 y.toNat)]))]
 | .sl_50,(x:List (List Str))=>[.sl (x.map (fun y=>[.sl (y.map (fun y=>[.str y]))]))]
 | .sl_68,(x:List qE)=>[.sl (x.map Nr)]
 | .sl_71,(x:List zB)=>[.sl (x.map qw)]
 | .sl_74,(x:List zh)=>[.sl (x.map qp)]
 | .sl_78,(x:List zy)=>[.sl (x.map Qm)]
 | .sl_9,(x:List Str)=>[.sl (x.map (fun y=>[.str y]))]
 | .st_VAnb,(x:VAnb)=>EI x
 | .st_VArr12_str,(x:qX)=>lQ x
 | .st_VArr2_str,(x:zcz)=>CO x
 | .st_VArr5_str,(x:zcA)=>BO x
 | .st_VArr7_str,(x:zcB)=>AO x
 | .st_VComplex,(x:zh)=>qp x
 | .st_VCompound,(x:zB)=>qw x
 | .st_VCond,(x:zm)=>Yf x
 | .st_VDecl,(x:zQ)=>Sr x
 | .st_VKept,(x:qE)=>Nr x
 | .st_VRule,(x:zA)=>QQ x
 | .st_VSheet,(x:Zi)=>ML x
 | .st_VSimple,(x:zy)=>Qm x
 | .st_VStore,(x:zZ)=>KL x
 | .st_VToken,(x:zt)=>AB x
 | .st_VValue,(x:ze)=>ZR x
 | .st_Vcond_reader,(x:zo)=>pR x
 | .st_Vglue_start,(x:Zc)=>gD x
 | .st_Vnest_found,(x:Zd)=>uQ x
 | .st_Vref08_base,(x:qF)=>tQ x
 | .st_Vruntime_boundsError,(x:Zu)=>HY x
 | .st_Vseltext_place,(x:zg)=>PT x
 | .st_Vseltext_reader,(x:zk)=>iU x
 | .st_Vsheet_found,(x:zK)=>nR x
 | .st_Vsheet_parser,(x:zx)=>vS x
 | .st_Vtoken_scanner,(x:zb)=>OT x
 | .str,(x:Str)=>[.str x]
 | .other,_=>List.replicate n (.at (.slice none 0 0))
def eC(n:Nat):(c:TC)->Ct c->List (EV Cn)
 | .bool,(x:Bool)=>[.bool x]
 | .int_i32,(x:Int)=>[.int .i32 x]
 | .int_i64,(x:Int)=>[.int .i64 x]
 | .int_u32,(x:Int)=>[.int .u32 x]
 | .int_u64,(x:Int)=>[.int .u64 x]
 | .int_u8,(x:UInt8)=>[.int .u8 (x.toNat:Int)]
 | .sl_129,(x:List zt)=>[.sl 129 x]
 | .sl_133,(x:List ze)=>[.sl 133 x]
 | .sl_2,(x:List Int)=>[.sl 2 x]
 | .sl_326,(x:List Zc)=>[.sl 326 x]
 | .sl_37,(x:List (List ze))=>[.sl 37 x]
 | .sl_39,(x:List zQ)=>[.sl 39 x]
 | .sl_42,(x:List zm)=>[.sl 42 x]
 | .sl_45,(x:List zA)=>[.sl 45 x]
 | .sl_5,(x:List UInt8)=>[.sl 5 x]
 | .sl_50,(x:List (List Str))=>[.sl 50 x]
 | .sl_68,(x:List qE)=>[.sl 68 x]
 | .sl_71,(x:List zB)=>[.sl 71 x]
 | .sl_74,(x:List zh)=>[.sl 74 x]
 | .sl_78,(x:List zy)=>[.sl 78 x]
 | .sl_9,(x:List Str)=>[.sl 9 x]
 | .st_VAnb,(x:VAnb)=>[.int .i64 x.a, .int .i64 x.b]
 | .st_VArr12_str,(x:qX)=>[.str x.e0, .str x.e1, .str x.e2, .str x.e3, .str x.e4, .str x.e5, .str x.e6, .str x.e7, .str x.e8, .str x.e9, .str x.e10, .str x.e11]
 | .st_VArr2_str,(x:zcz)=>[.str x.e0, .str x.e1]
 | .st_VArr5_str,(x:zcA)=>[.str x.e0, .str x.e1, .str x.e2, .str x.e3, .str x.e4]
 | .st_VArr7_str,(x:zcB)=>[.str x.e0, .str x.e1, .str x.e2, .str x.e3, .str x.e4, .str x.e5, .str x.e6]
 | .st_VComplex,(x:zh)=>[.int .u8 x.lead, .sl 71 x.parts, .sl 5 x.combs]
 | .st_VCompound,(x:zB)=>[.str x.tag, .sl 78 x.simples]
 | .st_VCond,(x:zm)=>[.int .u8 x.kind, .str x.name, .int .i64 x.num, .str x.decl.name, .sl 133 x.decl.value, .bool x.decl.important, .sl 42 x.list]
 | .st_VDecl,(x:zQ)=>[.str x.name, .sl 133 x.value, .bool x.important]
 | .st_VKept,(x:qE)=>[.int .i64 x.number, .int .u8 x.origin, .str x.site, .sl 45 x.sheet.rules]
 | .st_VRule,(x:zA)=>[.int .u8 x.kind, .sl 74 x.selectors, .sl 39 x.decls, .int .u8 x.cond.kind, .str x.cond.name, .int .i64 x.cond.num, .str x.cond.decl.name, .sl 133 x.cond.decl.value, .bool x.cond.decl.important, .sl 42 x.cond.list, .sl 50 x.names, .sl 45 x.rules]
 | .st_VSheet,(x:Zi)=>[.sl 45 x.rules]
 | .st_VSimple,(x:zy)=>[.int .u8 x.kind, .str x.name, .int .u8 x.op, .str x.value, .bool x.fold, .int .i64 x.anb.a, .int .i64 x.anb.b, .bool x.of_, .sl 74 x.list]
 | .st_VStore,(x:zZ)=>[.sl 68 x.sheets, .int .i64 x.next]
 | .st_VToken,(x:zt)=>[.int .u8 x.kind, .str x.text, .int .i64 x.num, .str x.unit, .bool x.flag]
 | .st_VValue,(x:ze)=>[.int .u8 x.token.kind, .str x.token.text, .int .i64 x.token.num, .str x.token.unit, .bool x.token.flag, .sl 133 x.list]
 | .st_Vcond_reader,(x:zo)=>[.sl 133 x.v]
 | .st_Vglue_start,(x:Zc)=>[.int .i64 x.token, .int .i64 x.at_]
 | .st_Vnest_found,(x:Zd)=>[.int .i64 x.depth, .int .i64 x.tokens, .bool x.bad]
 | .st_Vref08_base,(x:qF)=>[.int .u8 x.kind, .str x.name, .int .u8 x.op, .str x.value, .bool x.fold, .int .i64 x.anb.a, .int .i64 x.anb.b, .bool x.of_]
 | .st_Vruntime_boundsError,(x:Zu)=>[.int .i64 x.x, .int .i64 x.y, .bool x.signed, .int .u8 x.code]
 | .st_Vseltext_place,(x:zg)=>[.int .i64 x.deep, .bool x.has]
 | .st_Vseltext_reader,(x:zk)=>[.sl 133 x.v, .int .i64 x.at_]
 | .st_Vsheet_found,(x:zK)=>[.int .i64 x.rules, .int .i64 x.depth, .bool x.bad]
 | .st_Vsheet_parser,(x:zx)=>[.int .i64 x.room, .int .i64 x.constructs]
 | .st_Vtoken_scanner,(x:zb)=>[.str x.s, .int .i64 x.at_]
 | .str,(x:Str)=>[.str x]
 | .other,_=>List.replicate n .nil
def pq:EV Cn->Option Int
 | .int .i32 n=>some n
 |_=>none
def Zm:EV Cn->Option Int
 | .int .i64 n=>some n
 |_=>none
def oq:EV Cn->Option Int
 | .int .u32 n=>some n
 |_=>none
def mq:EV Cn->Option Int
 | .int .u64 n=>some n
 |_=>none
def De:EV Cn->Option Int
 | .int .u8 n=>some n
 |_=>none
def Xd:EV Cn->Option Bool
 | .bool b=>some b
 |_=>none
def dStr:EV Cn->Option Str
 | .str l=>some l
 |_=>none
def bn:EV Cn->Option (List Int)
 | .nil=>some []
 | .sl 2 l=>some l
 |_=>none
def Dk:EV Cn->Option (List UInt8)
 | .nil=>some []
 | .sl 5 l=>some l
 |_=>none
def Yn:EV Cn->Option (List Str)
 | .nil=>some []
 | .sl 9 l=>some l
 |_=>none
def Jp:EV Cn->Option (List (List ze))
 | .nil=>some []
 | .sl 37 l=>some l
 |_=>none
def ik:EV Cn->Option (List zQ)
 | .nil=>some []
 | .sl 39 l=>some l
 |_=>none
def Vi:EV Cn->Option (List zm)
 | .nil=>some []
 | .sl 42 l=>some l
 |_=>none
def Lh:EV Cn->Option (List zA)
 | .nil=>some []
 | .sl 45 l=>some l
 |_=>none
def ek:EV Cn->Option (List (List Str))
 | .nil=>some []
 | .sl 50 l=>some l
 |_=>none
def ak:EV Cn->Option (List qE)
 | .nil=>some []
 | .sl 68 l=>some l
 |_=>none
def Yk:EV Cn->Option (List zB)
 | .nil=>some []
 | .sl 71 l=>some l
 |_=>none
def Ui:EV Cn->Option (List zh)
 | .nil=>some []
 | .sl 74 l=>some l
 |_=>none
def Xk:EV Cn->Option (List zy)
 | .nil=>some []
 | .sl 78 l=>some l
 |_=>none
def Gq:EV Cn->Option (List zt)
 | .nil=>some []
 | .sl 129 l=>some l
 |_=>none
def Nf:EV Cn->Option (List ze)
 | .nil=>some []
 | .sl 133 l=>some l
 |_=>none
def Fq:EV Cn->Option (List Zc)
 | .nil=>some []
 | .sl 326 l=>some l
 |_=>none
def mC:(c:TC)->List (EV Cn)->Option (Ct c)
 | .bool=>fun cs=>match cs with|[a0]=>(Xd a0).bind fun x0=>some x0|_=>none
 | .int_i32=>fun cs=>match cs with|[a0]=>(pq a0).bind fun x0=>some x0|_=>none
 | .int_i64=>fun cs=>match cs with|[a0]=>(Zm a0).bind fun x0=>some x0|_=>none
 | .int_u32=>fun cs=>match cs with|[a0]=>(oq a0).bind fun x0=>some x0|_=>none
 | .int_u64=>fun cs=>match cs with|[a0]=>(mq a0).bind fun x0=>some x0|_=>none
 | .int_u8=>fun cs=>match cs with|[a0]=>(De a0).bind qK|_=>none
 | .sl_129=>fun cs=>match cs with|[a0]=>(Gq a0).bind fun x0=>some x0|_=>none
 | .sl_133=>fun cs=>match cs with|[a0]=>(Nf a0).bind fun x0=>some x0|_=>none
 | .sl_2=>fun cs=>match cs with|[a0]=>(bn a0).bind fun x0=>some x0|_=>none
 | .sl_326=>fun cs=>match cs with|[a0]=>(Fq a0).bind fun x0=>some x0|_=>none
 | .sl_37=>fun cs=>match cs with|[a0]=>(Jp a0).bind fun x0=>some x0|_=>none
 | .sl_39=>fun cs=>match cs with|[a0]=>(ik a0).bind fun x0=>some x0|_=>none
 | .sl_42=>fun cs=>match cs with|[a0]=>(Vi a0).bind fun x0=>some x0|_=>none
 | .sl_45=>fun cs=>match cs with|[a0]=>(Lh a0).bind fun x0=>some x0|_=>none
 | .sl_5=>fun cs=>match cs with|[a0]=>(Dk a0).bind fun x0=>some x0|_=>none
 | .sl_50=>fun cs=>match cs with|[a0]=>(ek a0).bind fun x0=>some x0|_=>none
 | .sl_68=>fun cs=>match cs with|[a0]=>(ak a0).bind fun x0=>some x0|_=>none
 | .sl_71=>fun cs=>match cs with|[a0]=>(Yk a0).bind fun x0=>some x0|_=>none
 | .sl_74=>fun cs=>match cs with|[a0]=>(Ui a0).bind fun x0=>some x0|_=>none
 | .sl_78=>fun cs=>match cs with|[a0]=>(Xk a0).bind fun x0=>some x0|_=>none
 | .sl_9=>fun cs=>match cs with|[a0]=>(Yn a0).bind fun x0=>some x0|_=>none
 | .st_VAnb=>fun cs=>match cs with|[a0,a1]=>(Zm a0).bind fun x0=>(Zm a1).bind fun x1=>some (⟨x0,x1⟩:VAnb)|_=>none
 | .st_VArr12_str=>fun cs=>match cs with|[a0,a1,a2,a3,a4,a5,a6,a7,a8,a9,a10,a11]=>(dStr a0).bind fun x0=>(dStr a1).bind fun x1=>(dStr a2).bind fun x2=>(dStr a3).bind fun x3=>(dStr a4).bind fun x4=>(dStr a5).bind fun x5=>(dStr a6).bind fun x6=>(dStr a7).bind fun x7=>(dStr a8).bind fun x8=>(dStr a9).bind fun x9=>(dStr a10).bind fun x10=>(dStr a11).bind fun x11=>some (⟨x0,x1,x2,x3,x4,x5,x6,x7,x8,x9,x10,x11⟩:qX)|_=>none
 | .st_VArr2_str=>fun cs=>match cs with|[a0,a1]=>(dStr a0).bind fun x0=>(dStr a1).bind fun x1=>some (⟨x0,x1⟩:zcz)|_=>none
 | .st_VArr5_str=>fun cs=>match cs with|[a0,a1,a2,a3,a4]=>(dStr a0).bind fun x0=>(dStr a1).bind fun x1=>(dStr a2).bind fun x2=>(dStr a3).bind fun x3=>(dStr a4).bind fun x4=>some (⟨x0,x1,x2,x3,x4⟩:zcA)|_=>none
 | .st_VArr7_str=>fun cs=>match cs with|[a0,a1,a2,a3,a4,a5,a6]=>(dStr a0).bind fun x0=>(dStr a1).bind fun x1=>(dStr a2).bind fun x2=>(dStr a3).bind fun x3=>(dStr a4).bind fun x4=>(dStr a5).bind fun x5=>(dStr a6).bind fun x6=>some (⟨x0,x1,x2,x3,x4,x5,x6⟩:zcB)|_=>none
 | .st_VComplex=>fun cs=>match cs with|[a0,a1,a2]=>(De a0).bind fun x0=>(Yk a1).bind fun x1=>(Dk a2).bind fun x2=>some (⟨x0,x1,x2⟩:zh)|_=>none
 | .st_VCompound=>fun cs=>match cs with|[a0,a1]=>(dStr a0).bind fun x0=>(Xk a1).bind fun x1=>some (⟨x0,x1⟩:zB)|_=>none
 | .st_VCond=>fun cs=>match cs with|[a0,a1,a2,a3,a4,a5,a6]=>(De a0).bind fun x0=>(dStr a1).bind fun x1=>(Zm a2).bind fun x2=>(dStr a3).bind fun x3=>(Nf a4).bind fun x4=>(Xd a5).bind fun x5=>(Vi a6).bind fun x6=>some (⟨x0,x1,x2,(⟨x3,x4,x5⟩:zQ),x6⟩:zm)|_=>none
 | .st_VDecl=>fun cs=>match cs with|[a0,a1,a2]=>(dStr a0).bind fun x0=>(Nf a1).bind fun x1=>(Xd a2).bind fun x2=>some (⟨x0,x1,x2⟩:zQ)|_=>none
 | .st_VKept=>fun cs=>match cs with|[a0,a1,a2,a3]=>(Zm a0).bind fun x0=>(De a1).bind fun x1=>(dStr a2).bind fun x2=>(Lh a3).bind fun x3=>some (⟨x0,x1,x2,(⟨x3⟩:Zi)⟩:qE)|_=>none
 | .st_VRule=>fun cs=>match cs with|[a0,a1,a2,a3,a4,a5,a6,a7,a8,a9,a10,a11]=>(De a0).bind fun x0=>(Ui a1).bind fun x1=>(ik a2).bind fun x2=>(De a3).bind fun x3=>(dStr a4).bind fun x4=>(Zm a5).bind fun x5=>(dStr a6).bind fun x6=>(Nf a7).bind fun x7=>(Xd a8).bind fun x8=>(Vi a9).bind fun x9=>(ek a10).bind fun x10=>(Lh a11).bind fun x11=>some (⟨x0,x1,x2,(⟨x3,x4,x5,(⟨x6,x7,x8⟩:zQ),x9⟩:zm),x10,x11⟩:zA)|_=>none
 | .st_VSheet=>fun cs=>match cs with|[a0]=>(Lh a0).bind fun x0=>some (⟨x0⟩:Zi)|_=>none
 | .st_VSimple=>fun cs=>match cs with|[a0,a1,a2,a3,a4,a5,a6,a7,a8]=>(De a0).bind fun x0=>(dStr a1).bind fun x1=>(De a2).bind fun x2=>(dStr a3).bind fun x3=>(Xd a4).bind fun x4=>(Zm a5).bind fun x5=>(Zm a6).bind fun x6=>(Xd a7).bind fun x7=>(Ui a8).bind fun x8=>some (⟨x0,x1,x2,x3,x4,(⟨x5,x6⟩:VAnb),x7,x8⟩:zy)|_=>none
 | .st_VStore=>fun cs=>match cs with|[a0,a1]=>(ak a0).bind fun x0=>(Zm a1).bind fun x1=>some (⟨x0,x1⟩:zZ)|_=>none
 | .st_VToken=>fun cs=>match cs with|[a0,a1,a2,a3,a4]=>(De a0).bind fun x0=>(dStr a1).bind fun x1=>(Zm a2).bind fun x2=>(dStr a3).bind fun x3=>(Xd a4).bind fun x4=>some (⟨x0,x1,x2,x3,x4⟩:zt)|_=>none
 | .st_VValue=>fun cs=>match cs with|[a0,a1,a2,a3,a4,a5]=>(De a0).bind fun x0=>(dStr a1).bind fun x1=>(Zm a2).bind fun x2=>(dStr a3).bind fun x3=>(Xd a4).bind fun x4=>(Nf a5).bind fun x5=>some (⟨(⟨x0,x1,x2,x3,x4⟩:zt),x5⟩:ze)|_=>none
 | .st_Vcond_reader=>fun cs=>match cs with|[a0]=>(Nf a0).bind fun x0=>some (⟨x0⟩:zo)|_=>none
 | .st_Vglue_start=>fun cs=>match cs with|[a0,a1]=>(Zm a0).bind fun x0=>(Zm a1).bind fun x1=>some (⟨x0,x1⟩:Zc)|_=>none
 | .st_Vnest_found=>fun cs=>match cs with|[a0,a1,a2]=>(Zm a0).bind fun x0=>(Zm a1).bind fun x1=>(Xd a2).bind fun x2=>some (⟨x0,x1,x2⟩:Zd)|_=>none
 | .st_Vref08_base=>fun cs=>match cs with|[a0,a1,a2,a3,a4,a5,a6,a7]=>(De a0).bind fun x0=>(dStr a1).bind fun x1=>(De a2).bind fun x2=>(dStr a3).bind fun x3=>(Xd a4).bind fun x4=>(Zm a5).bind fun x5=>(Zm a6).bind fun x6=>(Xd a7).bind fun x7=>some (⟨x0,x1,x2,x3,x4,(⟨x5,x6⟩:VAnb),x7⟩:qF)|_=>none
 | .st_Vruntime_boundsError=>fun cs=>match cs with|[a0,a1,a2,a3]=>(Zm a0).bind fun x0=>(Zm a1).bind fun x1=>(Xd a2).bind fun x2=>(De a3).bind fun x3=>some (⟨x0,x1,x2,x3⟩:Zu)|_=>none
 | .st_Vseltext_place=>fun cs=>match cs with|[a0,a1]=>(Zm a0).bind fun x0=>(Xd a1).bind fun x1=>some (⟨x0,x1⟩:zg)|_=>none
 | .st_Vseltext_reader=>fun cs=>match cs with|[a0,a1]=>(Nf a0).bind fun x0=>(Zm a1).bind fun x1=>some (⟨x0,x1⟩:zk)|_=>none
 | .st_Vsheet_found=>fun cs=>match cs with|[a0,a1,a2]=>(Zm a0).bind fun x0=>(Zm a1).bind fun x1=>(Xd a2).bind fun x2=>some (⟨x0,x1,x2⟩:zK)|_=>none
 | .st_Vsheet_parser=>fun cs=>match cs with|[a0,a1]=>(Zm a0).bind fun x0=>(Zm a1).bind fun x1=>some (⟨x0,x1⟩:zx)|_=>none
 | .st_Vtoken_scanner=>fun cs=>match cs with|[a0,a1]=>(dStr a0).bind fun x0=>(Zm a1).bind fun x1=>some (⟨x0,x1⟩:zb)|_=>none
 | .str=>fun cs=>match cs with|[a0]=>(dStr a0).bind fun x0=>some x0|_=>none
 | .other=>fun _=>none
def bC:(c:TC)->Option ((List UInt8->List (Ct c))×(List (Ct c)->List UInt8))
 | .int_u8=>some (fun l=>l,fun l=>l)
 |_=>none
noncomputable def I:Ip:=⟨Cn,fun t=>dC (tc t),fun t=>eC (Tryz.prog.cellsOf t) (tc t),fun t=>mC (tc t),fun t=>fC (Tryz.prog.cellsOf t) (tc t),fun t=>bC (tc t)⟩
theorem lG:(tab.all fun p=>Nat.beq (Tryz.prog.cellsOf p.1) (size p.2))=true:=by kernel_rfl
theorem KI(t:Nat)(h:tc t≠ .other):Tryz.prog.cellsOf t=size (tc t):=by
 unfold tc at h ⊢;cases hl:lk tab t with
 |none=>rw[hl]at h;exact absurd rfl h
 |some c=> simp only;exact Fa (Bb.1 lG _ (QR hl))
def Dec(a:EV Cn)(p:PV):Prop:=Bf (I:=I) a=true/\WkP (pvE I a) p
theorem decs{cs:List (EV Cn)}{ps:List PV}(h:All2 Dec cs ps):(∀v∈cs,Bf (I:=I) v=true)/\cs.length=ps.length/\ ∀(j:Nat) (a b:PV),(cs.map (pvE I))[j]? =some a->ps[j]? =some b->WkP a b:=by
 induction h with
 |nil=>exact⟨fun v hv=>(by cases hv),rfl,fun j a b ha=>(by cases ha)⟩
 |cons h1 _ ih=>
  refine⟨fun v hv=> ?_,congrArg Nat.succ ih.2.1,fun j a b ha hb=> ?_⟩
  ·rcases Ua.1 hv with rfl|hv
   ·exact h1.1
   ·exact ih.1 v hv
  ·cases j with
   |zero=>injection ha with ha;injection hb with hb;rw[<-ha,<-hb];exact h1.2
   |succ j=>exact ih.2.2 j a b ha hb
theorem XL{a:EV Cn}{x:Int}(h:pq a=some x):Dec a (.at (.int .i32 x)):=by
 unfold pq at h;split at h
 ·cases h;exact⟨rfl, .refl _⟩
 ·cases h
theorem z8{a:EV Cn}{x:Int}(h:Zm a=some x):Dec a (.at (.int .i64 x)):=by
 unfold Zm at h;split at h
 ·cases h;exact⟨rfl, .refl _⟩
 ·cases h
theorem WL{a:EV Cn}{x:Int}(h:oq a=some x):Dec a (.at (.int .u32 x)):=by
 unfold oq at h;split at h
 ·cases h;exact⟨rfl, .refl _⟩
 ·cases h
theorem UL{a:EV Cn}{x:Int}(h:mq a=some x):Dec a (.at (.int .u64 x)):=by
 unfold mq at h;split at h
 ·cases h;exact⟨rfl, .refl _⟩
 ·cases h
theorem Z7{a:EV Cn}{x:Int}(h:De a=some x):Dec a (.at (.int .u8 x)):=by
 unfold De at h;split at h
 ·cases h;exact⟨rfl, .refl _⟩
 ·cases h
theorem Qf{a:EV Cn}{x:Bool}(h:Xd a=some x):Dec a (.at (.bool x)):=by
 unfold Xd at h;split at h
 ·cases h;exact⟨rfl, .refl _⟩
 ·cases h
theorem Zf{a:EV Cn}{x:Str}(h:dStr a=some x):Dec a (.str x):=by
 unfold dStr at h;split at h
 ·cases h;exact⟨rfl, .refl _⟩
 ·cases h
theorem GI{a:EV Cn}{x:List Int}(h:bn a=some x):Dec a (.sl (x.map (I.full 2))):=by
 unfold bn at h;split at h
 ·cases h;exact⟨rfl, .nil⟩
 ·cases h;exact⟨rfl, .refl _⟩
 ·cases h
theorem Tz{a:EV Cn}{x:List UInt8}(h:Dk a=some x):Dec a (.sl (x.map (I.full 5))):=by
 unfold Dk at h;split at h
 ·cases h;exact⟨rfl, .nil⟩
 ·cases h;exact⟨rfl, .refl _⟩
 ·cases h
theorem FI{a:EV Cn}{x:List Str}(h:Yn a=some x):Dec a (.sl (x.map (I.full 9))):=by
 unfold Yn at h;split at h
 ·cases h;exact⟨rfl, .nil⟩
 ·cases h;exact⟨rfl, .refl _⟩
 ·cases h
theorem LK{a:EV Cn}{x:List (List ze)}(h:Jp a=some x):Dec a (.sl (x.map (I.full 37))):=by
 unfold Jp at h;split at h
 ·cases h;exact⟨rfl, .nil⟩
 ·cases h;exact⟨rfl, .refl _⟩
 ·cases h
theorem vz{a:EV Cn}{x:List zQ}(h:ik a=some x):Dec a (.sl (x.map (I.full 39))):=by
 unfold ik at h;split at h
 ·cases h;exact⟨rfl, .nil⟩
 ·cases h;exact⟨rfl, .refl _⟩
 ·cases h
theorem jr{a:EV Cn}{x:List zm}(h:Vi a=some x):Dec a (.sl (x.map (I.full 42))):=by
 unfold Vi at h;split at h
 ·cases h;exact⟨rfl, .nil⟩
 ·cases h;exact⟨rfl, .refl _⟩
 ·cases h
theorem Dm{a:EV Cn}{x:List zA}(h:Lh a=some x):Dec a (.sl (x.map (I.full 45))):=by
 unfold Lh at h;split at h
 ·cases h;exact⟨rfl, .nil⟩
 ·cases h;exact⟨rfl, .refl _⟩
 ·cases h
theorem uz{a:EV Cn}{x:List (List Str)}(h:ek a=some x):Dec a (.sl (x.map (I.full 50))):=by
 unfold ek at h;split at h
 ·cases h;exact⟨rfl, .nil⟩
 ·cases h;exact⟨rfl, .refl _⟩
 ·cases h
theorem rz{a:EV Cn}{x:List qE}(h:ak a=some x):Dec a (.sl (x.map (I.full 68))):=by
 unfold ak at h;split at h
 ·cases h;exact⟨rfl, .nil⟩
 ·cases h;exact⟨rfl, .refl _⟩
 ·cases h
theorem pz{a:EV Cn}{x:List zB}(h:Yk a=some x):Dec a (.sl (x.map (I.full 71))):=by
 unfold Yk at h;split at h
 ·cases h;exact⟨rfl, .nil⟩
 ·cases h;exact⟨rfl, .refl _⟩
 ·cases h
theorem Yr{a:EV Cn}{x:List zh}(h:Ui a=some x):Dec a (.sl (x.map (I.full 74))):=by
 unfold Ui at h;split at h
 ·cases h;exact⟨rfl, .nil⟩
 ·cases h;exact⟨rfl, .refl _⟩
 ·cases h
theorem oz{a:EV Cn}{x:List zy}(h:Xk a=some x):Dec a (.sl (x.map (I.full 78))):=by
 unfold Xk at h;split at h
 ·cases h;exact⟨rfl, .nil⟩
 ·cases h;exact⟨rfl, .refl _⟩
 ·cases h
theorem mK{a:EV Cn}{x:List zt}(h:Gq a=some x):Dec a (.sl (x.map (I.full 129))):=by
 unfold Gq at h;split at h
 ·cases h;exact⟨rfl, .nil⟩
 ·cases h;exact⟨rfl, .refl _⟩
 ·cases h
theorem mg{a:EV Cn}{x:List ze}(h:Nf a=some x):Dec a (.sl (x.map (I.full 133))):=by
 unfold Nf at h;split at h
 ·cases h;exact⟨rfl, .nil⟩
 ·cases h;exact⟨rfl, .refl _⟩
 ·cases h
theorem lK{a:EV Cn}{x:List Zc}(h:Fq a=some x):Dec a (.sl (x.map (I.full 326))):=by
 unfold Fq at h;split at h
 ·cases h;exact⟨rfl, .nil⟩
 ·cases h;exact⟨rfl, .refl _⟩
 ·cases h
theorem fH(n:Nat): ∀(c:TC) (cs:List (EV Cn)) (x:Ct c),mC c cs=some x->All2 Dec cs (fC n c x)
 | .bool,cs,x,h=>by
  simp only[mC]at h;split at h
  ·obtain⟨x0,h0,h⟩:=Aa.1 h;injection h with h;subst h;exact .cons (Qf h0) .nil
  ·cases h
 | .int_i32,cs,x,h=>by
  simp only[mC]at h;split at h
  ·obtain⟨x0,h0,h⟩:=Aa.1 h;injection h with h;subst h;exact .cons (XL h0) .nil
  ·cases h
 | .int_i64,cs,x,h=>by
  simp only[mC]at h;split at h
  ·obtain⟨x0,h0,h⟩:=Aa.1 h;injection h with h;subst h;exact .cons (z8 h0) .nil
  ·cases h
 | .int_u32,cs,x,h=>by
  simp only[mC]at h;split at h
  ·obtain⟨x0,h0,h⟩:=Aa.1 h;injection h with h;subst h;exact .cons (WL h0) .nil
  ·cases h
 | .int_u64,cs,x,h=>by
  simp only[mC]at h;split at h
  ·obtain⟨x0,h0,h⟩:=Aa.1 h;injection h with h;subst h;exact .cons (UL h0) .nil
  ·cases h
 | .int_u8,cs,x,h=>by
  simp only[mC]at h;split at h
  ·obtain⟨x0,h0,h⟩:=Aa.1 h;have:=fK h;subst this;exact .cons (Z7 h0) .nil
  ·cases h
 | .sl_129,cs,x,h=>by
  simp only[mC]at h;split at h
  ·obtain⟨x0,h0,h⟩:=Aa.1 h;injection h with h;subst h;exact .cons (mK h0) .nil
  ·cases h
 | .sl_133,cs,x,h=>by
  simp only[mC]at h;split at h
  ·obtain⟨x0,h0,h⟩:=Aa.1 h;injection h with h;subst h;exact .cons (mg h0) .nil
  ·cases h
 | .sl_2,cs,x,h=>by
  simp only[mC]at h;split at h
  ·obtain⟨x0,h0,h⟩:=Aa.1 h;injection h with h;subst h;exact .cons (GI h0) .nil
  ·cases h
 | .sl_326,cs,x,h=>by
  simp only[mC]at h;split at h
  ·obtain⟨x0,h0,h⟩:=Aa.1 h;injection h with h;subst h;exact .cons (lK h0) .nil
  ·cases h
 | .sl_37,cs,x,h=>by
  simp only[mC]at h;split at h
  ·obtain⟨x0,h0,h⟩:=Aa.1 h;injection h with h;subst h;exact .cons (LK h0) .nil
  ·cases h
 | .sl_39,cs,x,h=>by
  simp only[mC]at h;split at h
  ·obtain⟨x0,h0,h⟩:=Aa.1 h;injection h with h;subst h;exact .cons (vz h0) .nil
  ·cases h
 | .sl_42,cs,x,h=>by
  simp only[mC]at h;split at h
  ·obtain⟨x0,h0,h⟩:=Aa.1 h;injection h with h;subst h;exact .cons (jr h0) .nil
  ·cases h
 | .sl_45,cs,x,h=>by
  simp only[mC]at h;split at h
  ·obtain⟨x0,h0,h⟩:=Aa.1 h;injection h with h;subst h;exact .cons (Dm h0) .nil
  ·cases h
 | .sl_5,cs,x,h=>by
  simp only[mC]at h;split at h
  ·obtain⟨x0,h0,h⟩:=Aa.1 h;injection h with h;subst h;exact .cons (Tz h0) .nil
  ·cases h
 | .sl_50,cs,x,h=>by
  simp only[mC]at h;split at h
  ·obtain⟨x0,h0,h⟩:=Aa.1 h;injection h with h;subst h;exact .cons (uz h0) .nil
  ·cases h
 | .sl_68,cs,x,h=>by
  simp only[mC]at h;split at h
  ·obtain⟨x0,h0,h⟩:=Aa.1 h;injection h with h;subst h;exact .cons (rz h0) .nil
  ·cases h
 | .sl_71,cs,x,h=>by
  simp only[mC]at h;split at h
  ·obtain⟨x0,h0,h⟩:=Aa.1 h;injection h with h;subst h;exact .cons (pz h0) .nil
  ·cases h
 | .sl_74,cs,x,h=>by
  simp only[mC]at h;split at h
  ·obtain⟨x0,h0,h⟩:=Aa.1 h;injection h with h;subst h;exact .cons (Yr h0) .nil
  ·cases h
 | .sl_78,cs,x,h=>by
  simp only[mC]at h;split at h
  ·obtain⟨x0,h0,h⟩:=Aa.1 h;injection h with h;subst h;exact .cons (oz h0) .nil
  ·cases h
 | .sl_9,cs,x,h=>by
  simp only[mC]at h;split at h
  ·obtain⟨x0,h0,h⟩:=Aa.1 h;injection h with h;subst h;exact .cons (FI h0) .nil
  ·cases h
 | .st_VAnb,cs,x,h=>by
  simp only[mC]at h;split at h
  ·obtain⟨x0,h0,h⟩:=Aa.1 h;obtain⟨x1,h1,h⟩:=Aa.1 h;injection h with h;subst h;exact .cons (z8 h0) (.cons (z8 h1) .nil)
  ·cases h
 | .st_VArr12_str,cs,x,h=>by
  simp only[mC]at h;split at h
  ·obtain⟨x0,h0,h⟩:=Aa.1 h;obtain⟨x1,h1,h⟩:=Aa.1 h;obtain⟨x2,h2,h⟩:=Aa.1 h;obtain⟨x3,h3,h⟩:=Aa.1 h;obtain⟨x4,h4,h⟩:=Aa.1 h;obtain⟨x5,h5,h⟩:=Aa.1 h;obtain⟨x6,h6,h⟩:=Aa.1 h;obtain⟨x7,h7,h⟩:=Aa.1 h;obtain⟨x8,h8,h⟩:=Aa.1 h;obtain⟨x9,h9,h⟩:=Aa.1 h;obtain⟨x10,h10,h⟩:=Aa.1 h;obtain⟨x11,h11,h⟩:=Aa.1 h;injection h with h;subst h;exact .cons (Zf h0) (.cons (Zf h1) (.cons (Zf h2) (.cons (Zf h3) (.cons (Zf h4) (.cons (Zf h5) (.cons (Zf h6) (.cons (Zf h7) (.cons (Zf h8) (.cons (Zf h9) (.cons (Zf h10) (.cons (Zf h11) .nil)))))))))))
  ·cases h
 | .st_VArr2_str,cs,x,h=>by
  simp only[mC]at h;split at h
  ·obtain⟨x0,h0,h⟩:=Aa.1 h;obtain⟨x1,h1,h⟩:=Aa.1 h;injection h with h;subst h;exact .cons (Zf h0) (.cons (Zf h1) .nil)
  ·cases h
 | .st_VArr5_str,cs,x,h=>by
  simp only[mC]at h;split at h
  ·obtain⟨x0,h0,h⟩:=Aa.1 h;obtain⟨x1,h1,h⟩:=Aa.1 h;obtain⟨x2,h2,h⟩:=Aa.1 h;obtain⟨x3,h3,h⟩:=Aa.1 h;obtain⟨x4,h4,h⟩:=Aa.1 h;injection h with h;subst h;exact .cons (Zf h0) (.cons (Zf h1) (.cons (Zf h2) (.cons (Zf h3) (.cons (Zf h4) .nil))))
  ·cases h
 | .st_VArr7_str,cs,x,h=>by
  simp only[mC]at h;split at h
  ·obtain⟨x0,h0,h⟩:=Aa.1 h;obtain⟨x1,h1,h⟩:=Aa.1 h;obtain⟨x2,h2,h⟩:=Aa.1 h;obtain⟨x3,h3,h⟩:=Aa.1 h;obtain⟨x4,h4,h⟩:=Aa.1 h;obtain⟨x5,h5,h⟩:=Aa.1 h;obtain⟨x6,h6,h⟩:=Aa.1 h;injection h with h;subst h;exact .cons (Zf h0) (.cons (Zf h1) (.cons (Zf h2) (.cons (Zf h3) (.cons (Zf h4) (.cons (Zf h5) (.cons (Zf h6) .nil))))))
  ·cases h
 | .st_VComplex,cs,x,h=>by
  simp only[mC]at h;split at h
  ·obtain⟨x0,h0,h⟩:=Aa.1 h;obtain⟨x1,h1,h⟩:=Aa.1 h;obtain⟨x2,h2,h⟩:=Aa.1 h;injection h with h;subst h;show All2 Dec _ (qp _);simp only[qp,ZU,ZL,Z8];exact .cons (Z7 h0) (.cons (pz h1) (.cons (Tz h2) .nil))
  ·cases h
 | .st_VCompound,cs,x,h=>by
  simp only[mC]at h;split at h
  ·obtain⟨x0,h0,h⟩:=Aa.1 h;obtain⟨x1,h1,h⟩:=Aa.1 h;injection h with h;subst h;show All2 Dec _ (qw _);simp only[qw,ZU,ZL,Z8];exact .cons (Zf h0) (.cons (oz h1) .nil)
  ·cases h
 | .st_VCond,cs,x,h=>by
  simp only[mC]at h;split at h
  ·obtain⟨x0,h0,h⟩:=Aa.1 h;obtain⟨x1,h1,h⟩:=Aa.1 h;obtain⟨x2,h2,h⟩:=Aa.1 h;obtain⟨x3,h3,h⟩:=Aa.1 h;obtain⟨x4,h4,h⟩:=Aa.1 h;obtain⟨x5,h5,h⟩:=Aa.1 h;obtain⟨x6,h6,h⟩:=Aa.1 h;injection h with h;subst h;show All2 Dec _ (Yf _);simp only[Yf,Nv];exact .cons (Z7 h0) (.cons (Zf h1) (.cons (z8 h2) (.cons (Zf h3) (.cons (mg h4) (.cons (Qf h5) (.cons (jr h6) .nil))))))
  ·cases h
 | .st_VDecl,cs,x,h=>by
  simp only[mC]at h;split at h
  ·obtain⟨x0,h0,h⟩:=Aa.1 h;obtain⟨x1,h1,h⟩:=Aa.1 h;obtain⟨x2,h2,h⟩:=Aa.1 h;injection h with h;subst h;exact .cons (Zf h0) (.cons (mg h1) (.cons (Qf h2) .nil))
  ·cases h
 | .st_VKept,cs,x,h=>by
  simp only[mC]at h;split at h
  ·obtain⟨x0,h0,h⟩:=Aa.1 h;obtain⟨x1,h1,h⟩:=Aa.1 h;obtain⟨x2,h2,h⟩:=Aa.1 h;obtain⟨x3,h3,h⟩:=Aa.1 h;injection h with h;subst h;exact .cons (z8 h0) (.cons (Z7 h1) (.cons (Zf h2) (.cons (Dm h3) .nil)))
  ·cases h
 | .st_VRule,cs,x,h=>by
  simp only[mC]at h;split at h
  ·obtain⟨x0,h0,h⟩:=Aa.1 h;obtain⟨x1,h1,h⟩:=Aa.1 h;obtain⟨x2,h2,h⟩:=Aa.1 h;obtain⟨x3,h3,h⟩:=Aa.1 h;obtain⟨x4,h4,h⟩:=Aa.1 h;obtain⟨x5,h5,h⟩:=Aa.1 h;obtain⟨x6,h6,h⟩:=Aa.1 h;obtain⟨x7,h7,h⟩:=Aa.1 h;obtain⟨x8,h8,h⟩:=Aa.1 h;obtain⟨x9,h9,h⟩:=Aa.1 h;obtain⟨x10,h10,h⟩:=Aa.1 h;obtain⟨x11,h11,h⟩:=Aa.1 h;injection h with h;subst h;show All2 Dec _ (QQ _);simp only[QQ,Sv];exact .cons (Z7 h0) (.cons (Yr h1) (.cons (vz h2) (.cons (Z7 h3) (.cons (Zf h4) (.cons (z8 h5) (.cons (Zf h6) (.cons (mg h7) (.cons (Qf h8) (.cons (jr h9) (.cons (uz h10) (.cons (Dm h11) .nil)))))))))))
  ·cases h
 | .st_VSheet,cs,x,h=>by
  simp only[mC]at h;split at h
  ·obtain⟨x0,h0,h⟩:=Aa.1 h;injection h with h;subst h;exact .cons (Dm h0) .nil
  ·cases h
 | .st_VSimple,cs,x,h=>by
  simp only[mC]at h;split at h
  ·obtain⟨x0,h0,h⟩:=Aa.1 h;obtain⟨x1,h1,h⟩:=Aa.1 h;obtain⟨x2,h2,h⟩:=Aa.1 h;obtain⟨x3,h3,h⟩:=Aa.1 h;obtain⟨x4,h4,h⟩:=Aa.1 h;obtain⟨x5,h5,h⟩:=Aa.1 h;obtain⟨x6,h6,h⟩:=Aa.1 h;obtain⟨x7,h7,h⟩:=Aa.1 h;obtain⟨x8,h8,h⟩:=Aa.1 h;injection h with h;subst h;show All2 Dec _ (Qm _);simp only[Qm,ZU,ZL,Z8];exact .cons (Z7 h0) (.cons (Zf h1) (.cons (Z7 h2) (.cons (Zf h3) (.cons (Qf h4) (.cons (z8 h5) (.cons (z8 h6) (.cons (Qf h7) (.cons (Yr h8) .nil))))))))
  ·cases h
 | .st_VStore,cs,x,h=>by
  simp only[mC]at h;split at h
  ·obtain⟨x0,h0,h⟩:=Aa.1 h;obtain⟨x1,h1,h⟩:=Aa.1 h;injection h with h;subst h;exact .cons (rz h0) (.cons (z8 h1) .nil)
  ·cases h
 | .st_VToken,cs,x,h=>by
  simp only[mC]at h;split at h
  ·obtain⟨x0,h0,h⟩:=Aa.1 h;obtain⟨x1,h1,h⟩:=Aa.1 h;obtain⟨x2,h2,h⟩:=Aa.1 h;obtain⟨x3,h3,h⟩:=Aa.1 h;obtain⟨x4,h4,h⟩:=Aa.1 h;injection h with h;subst h;exact .cons (Z7 h0) (.cons (Zf h1) (.cons (z8 h2) (.cons (Zf h3) (.cons (Qf h4) .nil))))
  ·cases h
 | .st_VValue,cs,x,h=>by
  simp only[mC]at h;split at h
  ·obtain⟨x0,h0,h⟩:=Aa.1 h;obtain⟨x1,h1,h⟩:=Aa.1 h;obtain⟨x2,h2,h⟩:=Aa.1 h;obtain⟨x3,h3,h⟩:=Aa.1 h;obtain⟨x4,h4,h⟩:=Aa.1 h;obtain⟨x5,h5,h⟩:=Aa.1 h;injection h with h;subst h;show All2 Dec _ (ZR _);simp only[ZR,Wv];exact .cons (Z7 h0) (.cons (Zf h1) (.cons (z8 h2) (.cons (Zf h3) (.cons (Qf h4) (.cons (mg h5) .nil)))))
  ·cases h
 | .st_Vcond_reader,cs,x,h=>by
  simp only[mC]at h;split at h
  ·obtain⟨x0,h0,h⟩:=Aa.1 h;injection h with h;subst h;exact .cons (mg h0) .nil
  ·cases h
 | .st_Vglue_start,cs,x,h=>by
  simp only[mC]at h;split at h
  ·obtain⟨x0,h0,h⟩:=Aa.1 h;obtain⟨x1,h1,h⟩:=Aa.1 h;injection h with h;subst h;exact .cons (z8 h0) (.cons (z8 h1) .nil)
  ·cases h
 | .st_Vnest_found,cs,x,h=>by
  simp only[mC]at h;split at h
  ·obtain⟨x0,h0,h⟩:=Aa.1 h;obtain⟨x1,h1,h⟩:=Aa.1 h;obtain⟨x2,h2,h⟩:=Aa.1 h;injection h with h;subst h;exact .cons (z8 h0) (.cons (z8 h1) (.cons (Qf h2) .nil))
  ·cases h
 | .st_Vref08_base,cs,x,h=>by
  simp only[mC]at h;split at h
  ·obtain⟨x0,h0,h⟩:=Aa.1 h;obtain⟨x1,h1,h⟩:=Aa.1 h;obtain⟨x2,h2,h⟩:=Aa.1 h;obtain⟨x3,h3,h⟩:=Aa.1 h;obtain⟨x4,h4,h⟩:=Aa.1 h;obtain⟨x5,h5,h⟩:=Aa.1 h;obtain⟨x6,h6,h⟩:=Aa.1 h;obtain⟨x7,h7,h⟩:=Aa.1 h;injection h with h;subst h;exact .cons (Z7 h0) (.cons (Zf h1) (.cons (Z7 h2) (.cons (Zf h3) (.cons (Qf h4) (.cons (z8 h5) (.cons (z8 h6) (.cons (Qf h7) .nil)))))))
  ·cases h
 | .st_Vruntime_boundsError,cs,x,h=>by
  simp only[mC]at h;split at h
  ·obtain⟨x0,h0,h⟩:=Aa.1 h;obtain⟨x1,h1,h⟩:=Aa.1 h;obtain⟨x2,h2,h⟩:=Aa.1 h;obtain⟨x3,h3,h⟩:=Aa.1 h;injection h with h;subst h;exact .cons (z8 h0) (.cons (z8 h1) (.cons (Qf h2) (.cons (Z7 h3) .nil)))
  ·cases h
 | .st_Vseltext_place,cs,x,h=>by
  simp only[mC]at h;split at h
  ·obtain⟨x0,h0,h⟩:=Aa.1 h;obtain⟨x1,h1,h⟩:=Aa.1 h;injection h with h;subst h;exact .cons (z8 h0) (.cons (Qf h1) .nil)
  ·cases h
 | .st_Vseltext_reader,cs,x,h=>by
  simp only[mC]at h;split at h
  ·obtain⟨x0,h0,h⟩:=Aa.1 h;obtain⟨x1,h1,h⟩:=Aa.1 h;injection h with h;subst h;exact .cons (mg h0) (.cons (z8 h1) .nil)
  ·cases h
 | .st_Vsheet_found,cs,x,h=>by
  simp only[mC]at h;split at h
  ·obtain⟨x0,h0,h⟩:=Aa.1 h;obtain⟨x1,h1,h⟩:=Aa.1 h;obtain⟨x2,h2,h⟩:=Aa.1 h;injection h with h;subst h;exact .cons (z8 h0) (.cons (z8 h1) (.cons (Qf h2) .nil))
  ·cases h
 | .st_Vsheet_parser,cs,x,h=>by
  simp only[mC]at h;split at h
  ·obtain⟨x0,h0,h⟩:=Aa.1 h;obtain⟨x1,h1,h⟩:=Aa.1 h;injection h with h;subst h;exact .cons (z8 h0) (.cons (z8 h1) .nil)
  ·cases h
 | .st_Vtoken_scanner,cs,x,h=>by
  simp only[mC]at h;split at h
  ·obtain⟨x0,h0,h⟩:=Aa.1 h;obtain⟨x1,h1,h⟩:=Aa.1 h;injection h with h;subst h;exact .cons (Zf h0) (.cons (z8 h1) .nil)
  ·cases h
 | .str,cs,x,h=>by
  simp only[mC]at h;split at h
  ·obtain⟨x0,h0,h⟩:=Aa.1 h;injection h with h;subst h;exact .cons (Zf h0) .nil
  ·cases h
 | .other,cs,x,h=>by cases h
theorem fe(n:Nat): ∀(c:TC) (x:Ct c),fC n c x=(eC n c x).map (pvE I)
 | .bool,x=>rfl
 | .int_i32,x=>rfl
 | .int_i64,x=>rfl
 | .int_u32,x=>rfl
 | .int_u64,x=>rfl
 | .int_u8,x=>rfl
 | .sl_129,x=>rfl
 | .sl_133,x=>rfl
 | .sl_2,x=>rfl
 | .sl_326,x=>rfl
 | .sl_37,x=>rfl
 | .sl_39,x=>rfl
 | .sl_42,x=>rfl
 | .sl_45,x=>rfl
 | .sl_5,x=>rfl
 | .sl_50,x=>rfl
 | .sl_68,x=>rfl
 | .sl_71,x=>rfl
 | .sl_74,x=>rfl
 | .sl_78,x=>rfl
 | .sl_9,x=>rfl
 | .st_VAnb,x=>rfl
 | .st_VArr12_str,x=>rfl
 | .st_VArr2_str,x=>rfl
 | .st_VArr5_str,x=>rfl
 | .st_VArr7_str,x=>rfl
 | .st_VComplex,(x:zh)=>by obtain⟨x_lead,x_parts,x_combs⟩:=x;show qp _=_;simp only[qp,ZU,ZL,Z8];rfl
 | .st_VCompound,(x:zB)=>by obtain⟨x_tag,x_simples⟩:=x;show qw _=_;simp only[qw,ZU,ZL,Z8];rfl
 | .st_VCond,(x:zm)=>by obtain⟨x_kind,x_name,x_num,x_decl,x_list⟩:=x;show Yf _=_;simp only[Yf,Nv];rfl
 | .st_VDecl,x=>rfl
 | .st_VKept,x=>rfl
 | .st_VRule,(x:zA)=>by obtain⟨x_kind,x_selectors,x_decls,x_cond,x_names,x_rules⟩:=x;show QQ _=_;simp only[QQ,Sv];rfl
 | .st_VSheet,x=>rfl
 | .st_VSimple,(x:zy)=>by obtain⟨x_kind,x_name,x_op,x_value,x_fold,x_anb,x_of_,x_list⟩:=x;show Qm _=_;simp only[Qm,ZU,ZL,Z8];rfl
 | .st_VStore,x=>rfl
 | .st_VToken,x=>rfl
 | .st_VValue,(x:ze)=>by obtain⟨x_token,x_list⟩:=x;show ZR _=_;simp only[ZR,Wv];rfl
 | .st_Vcond_reader,x=>rfl
 | .st_Vglue_start,x=>rfl
 | .st_Vnest_found,x=>rfl
 | .st_Vref08_base,x=>rfl
 | .st_Vruntime_boundsError,x=>rfl
 | .st_Vseltext_place,x=>rfl
 | .st_Vseltext_reader,x=>rfl
 | .st_Vsheet_found,x=>rfl
 | .st_Vsheet_parser,x=>rfl
 | .st_Vtoken_scanner,x=>rfl
 | .str,x=>rfl
 | .other,x=>by show List.replicate n (PV.at (Value.slice none 0 0))=(List.replicate n EV.nil).map (pvE I);rw[List.map_replicate];rfl
theorem aG(n:Nat)(c:TC)(x:Ct c)(h:c≠ .other->n=size c):(eC n c x).length=n:=by
 cases c
 case other=>simp[eC]
 all_goals (rw[h (by simp)];rfl)
theorem xG(n:Nat): ∀(c:TC) (x:Ct c),(eC n c x).all (Bf (I:=I))=true
 | .bool,x=>rfl
 | .int_i32,x=>rfl
 | .int_i64,x=>rfl
 | .int_u32,x=>rfl
 | .int_u64,x=>rfl
 | .int_u8,x=>rfl
 | .sl_129,x=>rfl
 | .sl_133,x=>rfl
 | .sl_2,x=>rfl
 | .sl_326,x=>rfl
 | .sl_37,x=>rfl
 | .sl_39,x=>rfl
 | .sl_42,x=>rfl
 | .sl_45,x=>rfl
 | .sl_5,x=>rfl
 | .sl_50,x=>rfl
 | .sl_68,x=>rfl
 | .sl_71,x=>rfl
 | .sl_74,x=>rfl
 | .sl_78,x=>rfl
 | .sl_9,x=>rfl
 | .st_VAnb,x=>rfl
 | .st_VArr12_str,x=>rfl
 | .st_VArr2_str,x=>rfl
 | .st_VArr5_str,x=>rfl
 | .st_VArr7_str,x=>rfl
 | .st_VComplex,x=>rfl
 | .st_VCompound,x=>rfl
 | .st_VCond,x=>rfl
 | .st_VDecl,x=>rfl
 | .st_VKept,x=>rfl
 | .st_VRule,x=>rfl
 | .st_VSheet,x=>rfl
 | .st_VSimple,x=>rfl
 | .st_VStore,x=>rfl
 | .st_VToken,x=>rfl
 | .st_VValue,x=>rfl
 | .st_Vcond_reader,x=>rfl
 | .st_Vglue_start,x=>rfl
 | .st_Vnest_found,x=>rfl
 | .st_Vref08_base,x=>rfl
 | .st_Vruntime_boundsError,x=>rfl
 | .st_Vseltext_place,x=>rfl
 | .st_Vseltext_reader,x=>rfl
 | .st_Vsheet_found,x=>rfl
 | .st_Vsheet_parser,x=>rfl
 | .st_Vtoken_scanner,x=>rfl
 | .str,x=>rfl
 | .other,x=>by show(List.replicate n EV.nil).all (Bf (I:=I))=true;rw[Bb];intro v hv;rw[(List.mem_replicate.1 hv).2];rfl
theorem kG:(tab.all fun p=>match p.2 with| .int_u8=>(match kdOf Tryz.prog p.1 with| .int .u8=>true|_=>false)|_=>true)=true:=by kernel_rfl
theorem gG(t:Nat)(h:tc t= .int_u8):kdOf Tryz.prog t= .int .u8:=by
 unfold tc at h;cases hl:lk tab t with
 |none=>rw[hl]at h;cases h
 |some c=>
  rw[hl]at h;have h:c= .int_u8:=h;subst h;have:=Bb.1 kG _ (QR hl);simp only at this;split at this
  ·assumption
  ·cases this
theorem MH(n:Nat): ∀(c:TC) (p:(List UInt8->List (Ct c))×(List (Ct c)->List UInt8)),bC c=some p->(∀l,(p.1 l).map (fC n c)=l.map fun b=>[PV.at (.int .u8 b.toNat)])/\(∀l,l.map (fC n c)=(p.2 l).map fun b=>[PV.at (.int .u8 b.toNat)])/\c= .int_u8:=by
 intro c p h;cases c
 case int_u8=>cases h;exact⟨fun l=>rfl,fun l=>rfl,rfl⟩
 all_goals cases h
theorem nH(t:Nat)(p:(List UInt8->List (I.C t))×(List (I.C t)->List UInt8))(h:I.byt t=some p):(∀l,(p.1 l).map (I.full t)=l.map fun b=>[PV.at (.int .u8 b.toNat)])/\(∀l,l.map (I.full t)=(p.2 l).map fun b=>[PV.at (.int .u8 b.toNat)])/\kdOf Tryz.prog t= .int .u8:=by obtain⟨h1,h2,h3⟩:=MH (Tryz.prog.cellsOf t) (tc t) p h;exact⟨h1,h2,gG t h3⟩
theorem ipOK:IpOK Tryz.prog I where
 len:=fun t x=>by show(fC _ _ x).length=_;exact(congrArg List.length (fe _ (tc t) x)).trans ((Ia ..).trans (aG _ (tc t) x (KI t)))
 exp:=fun t x=>fe _ _ x
 pur:=fun t x v hv=>Bb.1 (xG _ _ x) v hv
 made:=fun t cs x h=>decs (fH _ _ cs x h)
 byt:=nH
noncomputable def T:TT:=[(2,ti Tryz.prog 2),(3,ti Tryz.prog 3),(4,ti Tryz.prog 4),(5,ti Tryz.prog 5),(6,ti Tryz.prog 6),(7,ti Tryz.prog 7),(9,ti Tryz.prog 9),(11,ti Tryz.prog 11),(21,ti Tryz.prog 21),(22,ti Tryz.prog 22),(24,ti Tryz.prog 24),(27,ti Tryz.prog 27),(30,ti Tryz.prog 30),(34,ti Tryz.prog 34),(35,ti Tryz.prog 35),(36,ti Tryz.prog 36),(37,ti Tryz.prog 37),(39,ti Tryz.prog 39),(40,ti Tryz.prog 40),(42,ti Tryz.prog 42),(43,ti Tryz.prog 43),(45,ti Tryz.prog 45),(49,ti Tryz.prog 49),(50,ti Tryz.prog 50),(68,ti Tryz.prog 68),(69,ti Tryz.prog 69),(71,ti Tryz.prog 71),(72,ti Tryz.prog 72),(74,ti Tryz.prog 74),(76,ti Tryz.prog 76),(78,ti Tryz.prog 78),(88,ti Tryz.prog 88),(92,ti Tryz.prog 92),(104,ti Tryz.prog 104),(113,ti Tryz.prog 113),(118,ti Tryz.prog 118),(120,ti Tryz.prog 120),(122,ti Tryz.prog 122),(129,ti Tryz.prog 129),(131,ti Tryz.prog 131),(133,ti Tryz.prog 133),(139,ti Tryz.prog 139),(154,ti Tryz.prog 154),(165,ti Tryz.prog 165),(167,ti Tryz.prog 167),(183,ti Tryz.prog 183),(187,ti Tryz.prog 187),(198,ti Tryz.prog 198),(204,ti Tryz.prog 204),(210,ti Tryz.prog 210),(228,ti Tryz.prog 228),(230,ti Tryz.prog 230),(242,ti Tryz.prog 242),(243,ti Tryz.prog 243),(261,ti Tryz.prog 261),(283,ti Tryz.prog 283),(292,ti Tryz.prog 292),(293,ti Tryz.prog 293),(298,ti Tryz.prog 298),(305,ti Tryz.prog 305),(324,ti Tryz.prog 324),(326,ti Tryz.prog 326),(329,ti Tryz.prog 329),(331,ti Tryz.prog 331),(359,ti Tryz.prog 359),(361,ti Tryz.prog 361),(368,ti Tryz.prog 368),(371,ti Tryz.prog 371)]
def FK:List (Nat×List Kd):=[(76,[.int .i64, .int .i64]),(129,[.int .u8, .str, .int .i64, .str, .bool]),(371,[.int .u8, .str, .int .u8, .str, .bool, .int .i64, .int .i64, .bool])]
theorem tok:TOK Tryz.prog T FK:=Bp (l:=[2,3,4,5,6,7,9,11,21,22,24,27,30,34,35,36,37,39,40,42,43,45,49,50,68,69,71,72,74,76,78,88,92,104,113,118,120,122,129,131,133,139,154,165,167,183,187,198,204,210,228,230,242,243,261,283,292,293,298,305,324,326,329,331,359,361,368,371]) (by
 intro p hp;simp only[FK,Ua,List.not_mem_nil,or_false]at hp;rcases hp with rfl|rfl|rfl<;>kernel_rfl)
theorem mixed:Tryz.prog.follows .mixedOrders=true:=by kernel_rfl
noncomputable def body(f:Go.Func):Code:=match f.body with|some c=>c|none=> .skip
noncomputable def rsl(f:Go.Func):List ResultVar:=f.results.toList
end Go.Lv.VT
