/- What stands for the values of types. -/
import Derived.Test.YtanfjibdgcalfaaGreatDoorProg
import Derived.Test.YtanfjibdgcalfaaGreatDoorLf
import Derived.Test.YtanfjibdgcalfaaGreatDoorTy
import Derived.KernelRfl
set_option linter.unusedSimpArgs false
set_option linter.unusedVariables false
namespace Go.Lv.VT
set_option maxRecDepth 100000
open Go.Proofs
inductive TC where
 |bool|int_i32|int_i64|int_u32|int_u64|int_u8|sl_131|sl_135|sl_2|sl_31|sl_33|sl_332|sl_36|sl_39|sl_5|sl_59|sl_65|sl_68|sl_72|sl_9|st_VAnb|st_VArr12_str|st_VArr2_str|st_VArr5_str|st_VArr7_str|st_VComplex|st_VCompound|st_VCond|st_VDecl|st_VRule|st_VSheet|st_VSimple|st_VToken|st_VValue|st_Vcond_reader|st_Vglue_start|st_Vnest_found|st_Vruntime_boundsError|st_Vseltext_place|st_Vseltext_reader|st_Vsheet_found|st_Vsheet_parser|st_Vtoken_scanner|str|other
def Ct:TC->Type
 | .bool=>Bool| .int_i32=>Int| .int_i64=>Int| .int_u32=>Int| .int_u64=>Int| .int_u8=>UInt8| .sl_131=>List zt| .sl_135=>List ze| .sl_2=>List Int| .sl_31=>List (List ze)| .sl_33=>List z8| .sl_332=>List Zi| .sl_36=>List zq| .sl_39=>List zD| .sl_5=>List UInt8| .sl_59=>List (List Str)| .sl_65=>List zA| .sl_68=>List zu| .sl_72=>List zC| .sl_9=>List Str| .st_VAnb=>VAnb| .st_VArr12_str=>zaq| .st_VArr2_str=>zek| .st_VArr5_str=>zel| .st_VArr7_str=>zem| .st_VComplex=>zu| .st_VCompound=>zA| .st_VCond=>zq| .st_VDecl=>z8| .st_VRule=>zD| .st_VSheet=>ZL| .st_VSimple=>zC| .st_VToken=>zt| .st_VValue=>ze| .st_Vcond_reader=>zo| .st_Vglue_start=>Zi| .st_Vnest_found=>Zj| .st_Vruntime_boundsError=>ZF| .st_Vseltext_place=>zh| .st_Vseltext_reader=>zm| .st_Vsheet_found=>zK| .st_Vsheet_parser=>zy| .st_Vtoken_scanner=>zb| .str=>Str| .other=>Unit
def tab:List (Nat×TC):=[(2, .int_i64),(3, .int_i64),(4, .bool),(5, .int_u8),(6, .int_u8),(7, .st_Vruntime_boundsError),(9, .str),(11, .str),(21, .int_i32),(23, .sl_39),(25, .st_VSheet),(26, .int_i64),(29, .sl_68),(30, .sl_33),(31, .sl_135),(33, .st_VDecl),(34, .sl_36),(36, .st_VCond),(37, .sl_59),(39, .st_VRule),(42, .sl_5),(59, .sl_9),(63, .sl_72),(65, .st_VCompound),(66, .sl_65),(68, .st_VComplex),(70, .st_VAnb),(72, .st_VSimple),(77, .st_Vsheet_found),(80, .st_Vsheet_parser),(90, .sl_131),(131, .st_VToken),(133, .sl_31),(135, .st_VValue),(151, .st_Vseltext_place),(155, .st_Vnest_found),(192, .st_Vtoken_scanner),(242, .st_Vcond_reader),(259, .st_VArr5_str),(272, .int_u32),(306, .st_VArr7_str),(307, .st_VArr2_str),(316, .int_u64),(326, .sl_2),(330, .sl_332),(332, .st_Vglue_start),(335, .int_u64),(363, .st_Vseltext_reader),(372, .st_VArr12_str)]
def tc(t:Nat):TC:=match lk tab t with|some c=>c|none=> .other
def Cn(t:Nat):Type:=Ct (tc t)
def dC:(c:TC)->Ct c
 | .bool=>(default:Bool)| .int_i32=>(default:Int)| .int_i64=>(default:Int)| .int_u32=>(default:Int)| .int_u64=>(default:Int)| .int_u8=>(default:UInt8)| .sl_131=>(default:List zt)| .sl_135=>(default:List ze)| .sl_2=>(default:List Int)| .sl_31=>(default:List (List ze))| .sl_33=>(default:List z8)| .sl_332=>(default:List Zi)| .sl_36=>(default:List zq)| .sl_39=>(default:List zD)| .sl_5=>(default:List UInt8)| .sl_59=>(default:List (List Str))| .sl_65=>(default:List zA)| .sl_68=>(default:List zu)| .sl_72=>(default:List zC)| .sl_9=>(default:List Str)| .st_VAnb=>(default:VAnb)| .st_VArr12_str=>(default:zaq)| .st_VArr2_str=>(default:zek)| .st_VArr5_str=>(default:zel)| .st_VArr7_str=>(default:zem)| .st_VComplex=>(default:zu)| .st_VCompound=>(default:zA)| .st_VCond=>(default:zq)| .st_VDecl=>(default:z8)| .st_VRule=>(default:zD)| .st_VSheet=>(default:ZL)| .st_VSimple=>(default:zC)| .st_VToken=>(default:zt)| .st_VValue=>(default:ze)| .st_Vcond_reader=>(default:zo)| .st_Vglue_start=>(default:Zi)| .st_Vnest_found=>(default:Zj)| .st_Vruntime_boundsError=>(default:ZF)| .st_Vseltext_place=>(default:zh)| .st_Vseltext_reader=>(default:zm)| .st_Vsheet_found=>(default:zK)| .st_Vsheet_parser=>(default:zy)| .st_Vtoken_scanner=>(default:zb)| .str=>(default:Str)| .other=>()
def size:TC->Nat
 | .st_VAnb=>2| .st_VArr12_str=>12| .st_VArr2_str=>2| .st_VArr5_str=>5| .st_VArr7_str=>7| .st_VComplex=>3| .st_VCompound=>2| .st_VCond=>7| .st_VDecl=>3| .st_VRule=>12| .st_VSimple=>9| .st_VToken=>5| .st_VValue=>6| .st_Vglue_start=>2| .st_Vnest_found=>3| .st_Vruntime_boundsError=>4| .st_Vseltext_place=>2| .st_Vseltext_reader=>2| .st_Vsheet_found=>3| .st_Vsheet_parser=>2| .st_Vtoken_scanner=>2|_=>1
def GM(x:VAnb):List PV:=[.at (.int .i64 x.a), .at (.int .i64 x.b)]
def UR(x:zaq):List PV:=[.str x.e0, .str x.e1, .str x.e2, .str x.e3, .str x.e4, .str x.e5, .str x.e6, .str x.e7, .str x.e8, .str x.e9, .str x.e10, .str x.e11]
def KQ(x:zek):List PV:=[.str x.e0, .str x.e1]
def JQ(x:zel):List PV:=[.str x.e0, .str x.e1, .str x.e2, .str x.e3, .str x.e4]
def IQ(x:zem):List PV:=[.str x.e0, .str x.e1, .str x.e2, .str x.e3, .str x.e4, .str x.e5, .str x.e6]
mutual
def Qj:zu->List PV
 |⟨x_lead,x_parts,x_combs⟩=>[.at (.int .u8 x_lead), .sl (lm x_parts), .sl (x_combs.map (fun y=>[.at (.int .u8 y.toNat)]))]
def Tm:List zu->List (List PV)
 |[]=>[]
 |v::r=>Qj v::Tm r
def Qk:zA->List PV
 |⟨x_tag,x_simples⟩=>[.str x_tag, .sl (Cm x_simples)]
def lm:List zA->List (List PV)
 |[]=>[]
 |v::r=>Qk v::lm r
def mg:zC->List PV
 |⟨x_kind,x_name,x_op,x_value,x_fold,x_anb,x_of_,x_list⟩=>[.at (.int .u8 x_kind), .str x_name, .at (.int .u8 x_op), .str x_value, .at (.bool x_fold), .at (.int .i64 x_anb.a), .at (.int .i64 x_anb.b), .at (.bool x_of_), .sl (Tm x_list)]
def Cm:List zC->List (List PV)
 |[]=>[]
 |v::r=>mg v::Cm r
end
theorem qz: ∀(l:List zu),Tm l=l.map Qj
 |[]=>by rw[Tm];rfl
 |v::r=>by rw[Tm,qz r];rfl
theorem qb: ∀(l:List zA),lm l=l.map Qk
 |[]=>by rw[lm];rfl
 |v::r=>by rw[lm,qb r];rfl
theorem qP: ∀(l:List zC),Cm l=l.map mg
 |[]=>by rw[Cm];rfl
 |v::r=>by rw[Cm,qP r];rfl
def RF(x:zt):List PV:=[.at (.int .u8 x.kind), .str x.text, .at (.int .i64 x.num), .str x.unit, .at (.bool x.flag)]
mutual
def qx:ze->List PV
 |⟨x_token,x_list⟩=>[.at (.int .u8 x_token.kind), .str x_token.text, .at (.int .i64 x_token.num), .str x_token.unit, .at (.bool x_token.flag), .sl (il x_list)]
def il:List ze->List (List PV)
 |[]=>[]
 |v::r=>qx v::il r
end
theorem Az: ∀(l:List ze),il l=l.map qx
 |[]=>by rw[il];rfl
 |v::r=>by rw[il,Az r];rfl
def Bv(x:z8):List PV:=[.str x.name, .sl (x.value.map qx), .at (.bool x.important)]
mutual
def Fg:zq->List PV
 |⟨x_kind,x_name,x_num,x_decl,x_list⟩=>[.at (.int .u8 x_kind), .str x_name, .at (.int .i64 x_num), .str x_decl.name, .sl (x_decl.value.map qx), .at (.bool x_decl.important), .sl (Il x_list)]
def Il:List zq->List (List PV)
 |[]=>[]
 |v::r=>Fg v::Il r
end
theorem Ny: ∀(l:List zq),Il l=l.map Fg
 |[]=>by rw[Il];rfl
 |v::r=>by rw[Il,Ny r];rfl
mutual
def Eg:zD->List PV
 |⟨x_kind,x_selectors,x_decls,x_cond,x_names,x_rules⟩=>[.at (.int .u8 x_kind), .sl (x_selectors.map Qj), .sl (x_decls.map Bv), .at (.int .u8 x_cond.kind), .str x_cond.name, .at (.int .i64 x_cond.num), .str x_cond.decl.name, .sl (x_cond.decl.value.map qx), .at (.bool x_cond.decl.important), .sl (x_cond.list.map Fg), .sl (x_names.map (fun y=>[.sl (y.map (fun y=>[.str y]))])), .sl (Sl x_rules)]
def Sl:List zD->List (List PV)
 |[]=>[]
 |v::r=>Eg v::Sl r
end
theorem Ky: ∀(l:List zD),Sl l=l.map Eg
 |[]=>by rw[Sl];rfl
 |v::r=>by rw[Sl,Ky r];rfl
def tO(x:ZL):List PV:=[.sl (x.rules.map Eg)]
def uR(x:zo):List PV:=[.sl (x.v.map qx)]
def yH(x:Zi):List PV:=[.at (.int .i64 x.token), .at (.int .i64 x.at_)]
def vR(x:Zj):List PV:=[.at (.int .i64 x.depth), .at (.int .i64 x.tokens), .at (.bool x.bad)]
def DV(x:ZF):List PV:=[.at (.int .i64 x.x), .at (.int .i64 x.y), .at (.bool x.signed), .at (.int .u8 x.code)]
def TS(x:zh):List PV:=[.at (.int .i64 x.deep), .at (.bool x.has)]
def bS(x:zm):List PV:=[.sl (x.v.map qx), .at (.int .i64 x.at_)]
def rR(x:zK):List PV:=[.at (.int .i64 x.rules), .at (.int .i64 x.depth), .at (.bool x.bad)]
def BS(x:zy):List PV:=[.at (.int .i64 x.room), .at (.int .i64 x.constructs)]
def SS(x:zb):List PV:=[.str x.s, .at (.int .i64 x.at_)]
def fC(n:Nat):(c:TC)->Ct c->List PV
 | .bool,(x:Bool)=>[.at (.bool x)]
 | .int_i32,(x:Int)=>[.at (.int .i32 x)]
 | .int_i64,(x:Int)=>[.at (.int .i64 x)]
 | .int_u32,(x:Int)=>[.at (.int .u32 x)]
 | .int_u64,(x:Int)=>[.at (.int .u64 x)]
 | .int_u8,(x:UInt8)=>[.at (.int .u8 x.toNat)]
 | .sl_131,(x:List zt)=>[.sl (x.map RF)]
 | .sl_135,(x:List ze)=>[.sl (x.map qx)]
 | .sl_2,(x:List Int)=>[.sl (x.map (fun y=>[.at (.int .i64 y)]))]
 | .sl_31,(x:List (List ze))=>[.sl (x.map (fun y=>[.sl (y.map qx)]))]
 | .sl_33,(x:List z8)=>[.sl (x.map Bv)]
 | .sl_332,(x:List Zi)=>[.sl (x.map yH)]
 | .sl_36,(x:List zq)=>[.sl (x.map Fg)]
 | .sl_39,(x:List zD)=>[.sl (x.map Eg)]
 | .sl_5,(x:List UInt8)=>[.sl (x.map (fun y=>[.at (.int .u8 y.toNat)]))]
 | .sl_59,(x:List (List Str))=>[.sl (x.map (fun y=>[.sl (y.map (fun y=>[.str y]))]))]
 | .sl_65,(x:List zA)=>[.sl (x.map Qk)]
 | .sl_68,(x:List zu)=>[.sl (x.map Qj)]
 | .sl_72,(x:List zC)=>[.sl (x.map mg)]
 | .sl_9,(x:List Str)=>[.sl (x.map (fun y=>[.str y]))]
 | .st_VAnb,(x:VAnb)=>GM x
 | .st_VArr12_str,(x:zaq)=>UR x
 | .st_VArr2_str,(x:zek)=>KQ x
 | .st_VArr5_str,(x:zel)=>JQ x
 | .st_VArr7_str,(x:zem)=>IQ x
 | .st_VComplex,(x:zu)=>Qj x
 | .st_VCompound,(x:zA)=>Qk x
 | .st_VCond,(x:zq)=>Fg x
 | .st_VDecl,(x:z8)=>Bv x
 | .st_VRule,(x:zD)=>Eg x
 | .st_VSheet,(x:ZL)=>tO x
 | .st_VSimple,(x:zC)=>mg x
 | .st_VToken,(x:zt)=>RF x
 | .st_VValue,(x:ze)=>qx x
 | .st_Vcond_reader,(x:zo)=>uR x
 | .st_Vglue_start,(x:Zi)=>yH x
 | .st_Vnest_found,(x:Zj)=>vR x
 | .st_Vruntime_boundsError,(x:ZF)=>DV x
 | .st_Vseltext_place,(x:zh)=>TS x
 | .st_Vseltext_reader,(x:zm)=>bS x
 | .st_Vsheet_found,(x:zK)=>rR x
 | .st_Vsheet_parser,(x:zy)=>BS x
 | .st_Vtoken_scanner,(x:zb)=>SS x
 | .str,(x:Str)=>[.str x]
 | .other,_=>List.replicate n (.at (.slice none 0 0))
def eC(n:Nat):(c:TC)->Ct c->List (EV Cn)
 | .bool,(x:Bool)=>[.bool x]
 | .int_i32,(x:Int)=>[.int .i32 x]
 | .int_i64,(x:Int)=>[.int .i64 x]
 | .int_u32,(x:Int)=>[.int .u32 x]
 | .int_u64,(x:Int)=>[.int .u64 x]
 | .int_u8,(x:UInt8)=>[.int .u8 (x.toNat:Int)]
 | .sl_131,(x:List zt)=>[.sl 131 x]
 | .sl_135,(x:List ze)=>[.sl 135 x]
 | .sl_2,(x:List Int)=>[.sl 2 x]
 | .sl_31,(x:List (List ze))=>[.sl 31 x]
 | .sl_33,(x:List z8)=>[.sl 33 x]
 | .sl_332,(x:List Zi)=>[.sl 332 x]
 | .sl_36,(x:List zq)=>[.sl 36 x]
 | .sl_39,(x:List zD)=>[.sl 39 x]
 | .sl_5,(x:List UInt8)=>[.sl 5 x]
 | .sl_59,(x:List (List Str))=>[.sl 59 x]
 | .sl_65,(x:List zA)=>[.sl 65 x]
 | .sl_68,(x:List zu)=>[.sl 68 x]
 | .sl_72,(x:List zC)=>[.sl 72 x]
 | .sl_9,(x:List Str)=>[.sl 9 x]
 | .st_VAnb,(x:VAnb)=>[.int .i64 x.a, .int .i64 x.b]
 | .st_VArr12_str,(x:zaq)=>[.str x.e0, .str x.e1, .str x.e2, .str x.e3, .str x.e4, .str x.e5, .str x.e6, .str x.e7, .str x.e8, .str x.e9, .str x.e10, .str x.e11]
 | .st_VArr2_str,(x:zek)=>[.str x.e0, .str x.e1]
 | .st_VArr5_str,(x:zel)=>[.str x.e0, .str x.e1, .str x.e2, .str x.e3, .str x.e4]
 | .st_VArr7_str,(x:zem)=>[.str x.e0, .str x.e1, .str x.e2, .str x.e3, .str x.e4, .str x.e5, .str x.e6]
 | .st_VComplex,(x:zu)=>[.int .u8 x.lead, .sl 65 x.parts, .sl 5 x.combs]
 | .st_VCompound,(x:zA)=>[.str x.tag, .sl 72 x.simples]
 | .st_VCond,(x:zq)=>[.int .u8 x.kind, .str x.name, .int .i64 x.num, .str x.decl.name, .sl 135 x.decl.value, .bool x.decl.important, .sl 36 x.list]
 | .st_VDecl,(x:z8)=>[.str x.name, .sl 135 x.value, .bool x.important]
 | .st_VRule,(x:zD)=>[.int .u8 x.kind, .sl 68 x.selectors, .sl 33 x.decls, .int .u8 x.cond.kind, .str x.cond.name, .int .i64 x.cond.num, .str x.cond.decl.name, .sl 135 x.cond.decl.value, .bool x.cond.decl.important, .sl 36 x.cond.list, .sl 59 x.names, .sl 39 x.rules]
 | .st_VSheet,(x:ZL)=>[.sl 39 x.rules]
 | .st_VSimple,(x:zC)=>[.int .u8 x.kind, .str x.name, .int .u8 x.op, .str x.value, .bool x.fold, .int .i64 x.anb.a, .int .i64 x.anb.b, .bool x.of_, .sl 68 x.list]
 | .st_VToken,(x:zt)=>[.int .u8 x.kind, .str x.text, .int .i64 x.num, .str x.unit, .bool x.flag]
 | .st_VValue,(x:ze)=>[.int .u8 x.token.kind, .str x.token.text, .int .i64 x.token.num, .str x.token.unit, .bool x.token.flag, .sl 135 x.list]
 | .st_Vcond_reader,(x:zo)=>[.sl 135 x.v]
 | .st_Vglue_start,(x:Zi)=>[.int .i64 x.token, .int .i64 x.at_]
 | .st_Vnest_found,(x:Zj)=>[.int .i64 x.depth, .int .i64 x.tokens, .bool x.bad]
 | .st_Vruntime_boundsError,(x:ZF)=>[.int .i64 x.x, .int .i64 x.y, .bool x.signed, .int .u8 x.code]
 | .st_Vseltext_place,(x:zh)=>[.int .i64 x.deep, .bool x.has]
 | .st_Vseltext_reader,(x:zm)=>[.sl 135 x.v, .int .i64 x.at_]
 | .st_Vsheet_found,(x:zK)=>[.int .i64 x.rules, .int .i64 x.depth, .bool x.bad]
 | .st_Vsheet_parser,(x:zy)=>[.int .i64 x.room, .int .i64 x.constructs]
 | .st_Vtoken_scanner,(x:zb)=>[.str x.s, .int .i64 x.at_]
 | .str,(x:Str)=>[.str x]
 | .other,_=>List.replicate n .nil
def Uu:EV Cn->Option Int
 | .int .i32 n=>some n
 |_=>none
def ZV:EV Cn->Option Int
 | .int .i64 n=>some n
 |_=>none
def Tu:EV Cn->Option Int
 | .int .u32 n=>some n
 |_=>none
def Su:EV Cn->Option Int
 | .int .u64 n=>some n
 |_=>none
def je:EV Cn->Option Int
 | .int .u8 n=>some n
 |_=>none
def Je:EV Cn->Option Bool
 | .bool b=>some b
 |_=>none
def dStr:EV Cn->Option Str
 | .str l=>some l
 |_=>none
def Kr:EV Cn->Option (List Int)
 | .nil=>some []
 | .sl 2 l=>some l
 |_=>none
def Jn:EV Cn->Option (List UInt8)
 | .nil=>some []
 | .sl 5 l=>some l
 |_=>none
def Jr:EV Cn->Option (List Str)
 | .nil=>some []
 | .sl 9 l=>some l
 |_=>none
def Nt:EV Cn->Option (List (List ze))
 | .nil=>some []
 | .sl 31 l=>some l
 |_=>none
def Yn:EV Cn->Option (List z8)
 | .nil=>some []
 | .sl 33 l=>some l
 |_=>none
def aj:EV Cn->Option (List zq)
 | .nil=>some []
 | .sl 36 l=>some l
 |_=>none
def Yj:EV Cn->Option (List zD)
 | .nil=>some []
 | .sl 39 l=>some l
 |_=>none
def Xn:EV Cn->Option (List (List Str))
 | .nil=>some []
 | .sl 59 l=>some l
 |_=>none
def Wn:EV Cn->Option (List zA)
 | .nil=>some []
 | .sl 65 l=>some l
 |_=>none
def Xj:EV Cn->Option (List zu)
 | .nil=>some []
 | .sl 68 l=>some l
 |_=>none
def Vn:EV Cn->Option (List zC)
 | .nil=>some []
 | .sl 72 l=>some l
 |_=>none
def Hu:EV Cn->Option (List zt)
 | .nil=>some []
 | .sl 131 l=>some l
 |_=>none
def Ag:EV Cn->Option (List ze)
 | .nil=>some []
 | .sl 135 l=>some l
 |_=>none
def Gu:EV Cn->Option (List Zi)
 | .nil=>some []
 | .sl 332 l=>some l
 |_=>none
def mC:(c:TC)->List (EV Cn)->Option (Ct c)
 | .bool=>fun cs=>match cs with|[a0]=>(Je a0).bind fun x0=>some x0|_=>none
 | .int_i32=>fun cs=>match cs with|[a0]=>(Uu a0).bind fun x0=>some x0|_=>none
 | .int_i64=>fun cs=>match cs with|[a0]=>(ZV a0).bind fun x0=>some x0|_=>none
 | .int_u32=>fun cs=>match cs with|[a0]=>(Tu a0).bind fun x0=>some x0|_=>none
 | .int_u64=>fun cs=>match cs with|[a0]=>(Su a0).bind fun x0=>some x0|_=>none
 | .int_u8=>fun cs=>match cs with|[a0]=>(je a0).bind QG|_=>none
 | .sl_131=>fun cs=>match cs with|[a0]=>(Hu a0).bind fun x0=>some x0|_=>none
 | .sl_135=>fun cs=>match cs with|[a0]=>(Ag a0).bind fun x0=>some x0|_=>none
 | .sl_2=>fun cs=>match cs with|[a0]=>(Kr a0).bind fun x0=>some x0|_=>none
 | .sl_31=>fun cs=>match cs with|[a0]=>(Nt a0).bind fun x0=>some x0|_=>none
 | .sl_33=>fun cs=>match cs with|[a0]=>(Yn a0).bind fun x0=>some x0|_=>none
 | .sl_332=>fun cs=>match cs with|[a0]=>(Gu a0).bind fun x0=>some x0|_=>none
 | .sl_36=>fun cs=>match cs with|[a0]=>(aj a0).bind fun x0=>some x0|_=>none
 | .sl_39=>fun cs=>match cs with|[a0]=>(Yj a0).bind fun x0=>some x0|_=>none
 | .sl_5=>fun cs=>match cs with|[a0]=>(Jn a0).bind fun x0=>some x0|_=>none
 | .sl_59=>fun cs=>match cs with|[a0]=>(Xn a0).bind fun x0=>some x0|_=>none
 | .sl_65=>fun cs=>match cs with|[a0]=>(Wn a0).bind fun x0=>some x0|_=>none
 | .sl_68=>fun cs=>match cs with|[a0]=>(Xj a0).bind fun x0=>some x0|_=>none
 | .sl_72=>fun cs=>match cs with|[a0]=>(Vn a0).bind fun x0=>some x0|_=>none
 | .sl_9=>fun cs=>match cs with|[a0]=>(Jr a0).bind fun x0=>some x0|_=>none
 | .st_VAnb=>fun cs=>match cs with|[a0,a1]=>(ZV a0).bind fun x0=>(ZV a1).bind fun x1=>some (⟨x0,x1⟩:VAnb)|_=>none
 | .st_VArr12_str=>fun cs=>match cs with|[a0,a1,a2,a3,a4,a5,a6,a7,a8,a9,a10,a11]=>(dStr a0).bind fun x0=>(dStr a1).bind fun x1=>(dStr a2).bind fun x2=>(dStr a3).bind fun x3=>(dStr a4).bind fun x4=>(dStr a5).bind fun x5=>(dStr a6).bind fun x6=>(dStr a7).bind fun x7=>(dStr a8).bind fun x8=>(dStr a9).bind fun x9=>(dStr a10).bind fun x10=>(dStr a11).bind fun x11=>some (⟨x0,x1,x2,x3,x4,x5,x6,x7,x8,x9,x10,x11⟩:zaq)|_=>none
 | .st_VArr2_str=>fun cs=>match cs with|[a0,a1]=>(dStr a0).bind fun x0=>(dStr a1).bind fun x1=>some (⟨x0,x1⟩:zek)|_=>none
 | .st_VArr5_str=>fun cs=>match cs with|[a0,a1,a2,a3,a4]=>(dStr a0).bind fun x0=>(dStr a1).bind fun x1=>(dStr a2).bind fun x2=>(dStr a3).bind fun x3=>(dStr a4).bind fun x4=>some (⟨x0,x1,x2,x3,x4⟩:zel)|_=>none
 | .st_VArr7_str=>fun cs=>match cs with|[a0,a1,a2,a3,a4,a5,a6]=>(dStr a0).bind fun x0=>(dStr a1).bind fun x1=>(dStr a2).bind fun x2=>(dStr a3).bind fun x3=>(dStr a4).bind fun x4=>(dStr a5).bind fun x5=>(dStr a6).bind fun x6=>some (⟨x0,x1,x2,x3,x4,x5,x6⟩:zem)|_=>none
 | .st_VComplex=>fun cs=>match cs with|[a0,a1,a2]=>(je a0).bind fun x0=>(Wn a1).bind fun x1=>(Jn a2).bind fun x2=>some (⟨x0,x1,x2⟩:zu)|_=>none
 | .st_VCompound=>fun cs=>match cs with|[a0,a1]=>(dStr a0).bind fun x0=>(Vn a1).bind fun x1=>some (⟨x0,x1⟩:zA)|_=>none
 | .st_VCond=>fun cs=>match cs with|[a0,a1,a2,a3,a4,a5,a6]=>(je a0).bind fun x0=>(dStr a1).bind fun x1=>(ZV a2).bind fun x2=>(dStr a3).bind fun x3=>(Ag a4).bind fun x4=>(Je a5).bind fun x5=>(aj a6).bind fun x6=>some (⟨x0,x1,x2,(⟨x3,x4,x5⟩:z8),x6⟩:zq)|_=>none
 | .st_VDecl=>fun cs=>match cs with|[a0,a1,a2]=>(dStr a0).bind fun x0=>(Ag a1).bind fun x1=>(Je a2).bind fun x2=>some (⟨x0,x1,x2⟩:z8)|_=>none
 | .st_VRule=>fun cs=>match cs with|[a0,a1,a2,a3,a4,a5,a6,a7,a8,a9,a10,a11]=>(je a0).bind fun x0=>(Xj a1).bind fun x1=>(Yn a2).bind fun x2=>(je a3).bind fun x3=>(dStr a4).bind fun x4=>(ZV a5).bind fun x5=>(dStr a6).bind fun x6=>(Ag a7).bind fun x7=>(Je a8).bind fun x8=>(aj a9).bind fun x9=>(Xn a10).bind fun x10=>(Yj a11).bind fun x11=>some (⟨x0,x1,x2,(⟨x3,x4,x5,(⟨x6,x7,x8⟩:z8),x9⟩:zq),x10,x11⟩:zD)|_=>none
 | .st_VSheet=>fun cs=>match cs with|[a0]=>(Yj a0).bind fun x0=>some (⟨x0⟩:ZL)|_=>none
 | .st_VSimple=>fun cs=>match cs with|[a0,a1,a2,a3,a4,a5,a6,a7,a8]=>(je a0).bind fun x0=>(dStr a1).bind fun x1=>(je a2).bind fun x2=>(dStr a3).bind fun x3=>(Je a4).bind fun x4=>(ZV a5).bind fun x5=>(ZV a6).bind fun x6=>(Je a7).bind fun x7=>(Xj a8).bind fun x8=>some (⟨x0,x1,x2,x3,x4,(⟨x5,x6⟩:VAnb),x7,x8⟩:zC)|_=>none
 | .st_VToken=>fun cs=>match cs with|[a0,a1,a2,a3,a4]=>(je a0).bind fun x0=>(dStr a1).bind fun x1=>(ZV a2).bind fun x2=>(dStr a3).bind fun x3=>(Je a4).bind fun x4=>some (⟨x0,x1,x2,x3,x4⟩:zt)|_=>none
 | .st_VValue=>fun cs=>match cs with|[a0,a1,a2,a3,a4,a5]=>(je a0).bind fun x0=>(dStr a1).bind fun x1=>(ZV a2).bind fun x2=>(dStr a3).bind fun x3=>(Je a4).bind fun x4=>(Ag a5).bind fun x5=>some (⟨(⟨x0,x1,x2,x3,x4⟩:zt),x5⟩:ze)|_=>none
 | .st_Vcond_reader=>fun cs=>match cs with|[a0]=>(Ag a0).bind fun x0=>some (⟨x0⟩:zo)|_=>none
 | .st_Vglue_start=>fun cs=>match cs with|[a0,a1]=>(ZV a0).bind fun x0=>(ZV a1).bind fun x1=>some (⟨x0,x1⟩:Zi)|_=>none
 | .st_Vnest_found=>fun cs=>match cs with|[a0,a1,a2]=>(ZV a0).bind fun x0=>(ZV a1).bind fun x1=>(Je a2).bind fun x2=>some (⟨x0,x1,x2⟩:Zj)|_=>none
 | .st_Vruntime_boundsError=>fun cs=>match cs with|[a0,a1,a2,a3]=>(ZV a0).bind fun x0=>(ZV a1).bind fun x1=>(Je a2).bind fun x2=>(je a3).bind fun x3=>some (⟨x0,x1,x2,x3⟩:ZF)|_=>none
 | .st_Vseltext_place=>fun cs=>match cs with|[a0,a1]=>(ZV a0).bind fun x0=>(Je a1).bind fun x1=>some (⟨x0,x1⟩:zh)|_=>none
 | .st_Vseltext_reader=>fun cs=>match cs with|[a0,a1]=>(Ag a0).bind fun x0=>(ZV a1).bind fun x1=>some (⟨x0,x1⟩:zm)|_=>none
 | .st_Vsheet_found=>fun cs=>match cs with|[a0,a1,a2]=>(ZV a0).bind fun x0=>(ZV a1).bind fun x1=>(Je a2).bind fun x2=>some (⟨x0,x1,x2⟩:zK)|_=>none
 | .st_Vsheet_parser=>fun cs=>match cs with|[a0,a1]=>(ZV a0).bind fun x0=>(ZV a1).bind fun x1=>some (⟨x0,x1⟩:zy)|_=>none
 | .st_Vtoken_scanner=>fun cs=>match cs with|[a0,a1]=>(dStr a0).bind fun x0=>(ZV a1).bind fun x1=>some (⟨x0,x1⟩:zb)|_=>none
 | .str=>fun cs=>match cs with|[a0]=>(dStr a0).bind fun x0=>some x0|_=>none
 | .other=>fun _=>none
def bC:(c:TC)->Option ((List UInt8->List (Ct c))×(List (Ct c)->List UInt8))
 | .int_u8=>some (fun l=>l,fun l=>l)
 |_=>none
noncomputable def I:Ip:=⟨Cn,fun t=>dC (tc t),fun t=>eC (Tryz.prog.cellsOf t) (tc t),fun t=>mC (tc t),fun t=>fC (Tryz.prog.cellsOf t) (tc t),fun t=>bC (tc t)⟩
theorem TK:(tab.all fun p=>Nat.beq (Tryz.prog.cellsOf p.1) (size p.2))=true:=by kernel_rfl
theorem MM(t:Nat)(h:tc t≠ .other):Tryz.prog.cellsOf t=size (tc t):=by
 unfold tc at h ⊢;cases hl:lk tab t with
 |none=>rw[hl]at h;exact absurd rfl h
 |some c=> simp only;exact Fa (Cb.1 TK _ (Md hl))
def Dec(a:EV Cn)(p:PV):Prop:=Tf (I:=I) a=true/\WkP (pvE I a) p
theorem decs{cs:List (EV Cn)}{ps:List PV}(h:All2 Dec cs ps):(∀v∈cs,Tf (I:=I) v=true)/\cs.length=ps.length/\ ∀(j:Nat) (a b:PV),(cs.map (pvE I))[j]? =some a->ps[j]? =some b->WkP a b:=by
 induction h with
 |nil=>exact⟨fun v hv=>(by cases hv),rfl,fun j a b ha=>(by cases ha)⟩
 |cons h1 _ ih=>
  refine⟨fun v hv=> ?_,congrArg Nat.succ ih.2.1,fun j a b ha hb=> ?_⟩
  ·rcases Ua.1 hv with rfl|hv
   ·exact h1.1
   ·exact ih.1 v hv
  ·cases j with
   |zero=>injection ha with ha;injection hb with hb;rw[<-ha,<-hb];exact h1.2
   |succ j=>exact ih.2.2 j a b ha hb
theorem xO{a:EV Cn}{x:Int}(h:Uu a=some x):Dec a (.at (.int .i32 x)):=by
 unfold Uu at h;split at h
 ·cases h;exact⟨rfl, .refl _⟩
 ·cases h
theorem Zk{a:EV Cn}{x:Int}(h:ZV a=some x):Dec a (.at (.int .i64 x)):=by
 unfold ZV at h;split at h
 ·cases h;exact⟨rfl, .refl _⟩
 ·cases h
theorem gP{a:EV Cn}{x:Int}(h:Tu a=some x):Dec a (.at (.int .u32 x)):=by
 unfold Tu at h;split at h
 ·cases h;exact⟨rfl, .refl _⟩
 ·cases h
theorem fP{a:EV Cn}{x:Int}(h:Su a=some x):Dec a (.at (.int .u64 x)):=by
 unfold Su at h;split at h
 ·cases h;exact⟨rfl, .refl _⟩
 ·cases h
theorem Pf{a:EV Cn}{x:Int}(h:je a=some x):Dec a (.at (.int .u8 x)):=by
 unfold je at h;split at h
 ·cases h;exact⟨rfl, .refl _⟩
 ·cases h
theorem xe{a:EV Cn}{x:Bool}(h:Je a=some x):Dec a (.at (.bool x)):=by
 unfold Je at h;split at h
 ·cases h;exact⟨rfl, .refl _⟩
 ·cases h
theorem Zr{a:EV Cn}{x:Str}(h:dStr a=some x):Dec a (.str x):=by
 unfold dStr at h;split at h
 ·cases h;exact⟨rfl, .refl _⟩
 ·cases h
theorem JM{a:EV Cn}{x:List Int}(h:Kr a=some x):Dec a (.sl (x.map (I.full 2))):=by
 unfold Kr at h;split at h
 ·cases h;exact⟨rfl, .nil⟩
 ·cases h;exact⟨rfl, .refl _⟩
 ·cases h
theorem GD{a:EV Cn}{x:List UInt8}(h:Jn a=some x):Dec a (.sl (x.map (I.full 5))):=by
 unfold Jn at h;split at h
 ·cases h;exact⟨rfl, .nil⟩
 ·cases h;exact⟨rfl, .refl _⟩
 ·cases h
theorem IM{a:EV Cn}{x:List Str}(h:Jr a=some x):Dec a (.sl (x.map (I.full 9))):=by
 unfold Jr at h;split at h
 ·cases h;exact⟨rfl, .nil⟩
 ·cases h;exact⟨rfl, .refl _⟩
 ·cases h
theorem CO{a:EV Cn}{x:List (List ze)}(h:Nt a=some x):Dec a (.sl (x.map (I.full 31))):=by
 unfold Nt at h;split at h
 ·cases h;exact⟨rfl, .nil⟩
 ·cases h;exact⟨rfl, .refl _⟩
 ·cases h
theorem SE{a:EV Cn}{x:List z8}(h:Yn a=some x):Dec a (.sl (x.map (I.full 33))):=by
 unfold Yn at h;split at h
 ·cases h;exact⟨rfl, .nil⟩
 ·cases h;exact⟨rfl, .refl _⟩
 ·cases h
theorem Ev{a:EV Cn}{x:List zq}(h:aj a=some x):Dec a (.sl (x.map (I.full 36))):=by
 unfold aj at h;split at h
 ·cases h;exact⟨rfl, .nil⟩
 ·cases h;exact⟨rfl, .refl _⟩
 ·cases h
theorem Dv{a:EV Cn}{x:List zD}(h:Yj a=some x):Dec a (.sl (x.map (I.full 39))):=by
 unfold Yj at h;split at h
 ·cases h;exact⟨rfl, .nil⟩
 ·cases h;exact⟨rfl, .refl _⟩
 ·cases h
theorem PE{a:EV Cn}{x:List (List Str)}(h:Xn a=some x):Dec a (.sl (x.map (I.full 59))):=by
 unfold Xn at h;split at h
 ·cases h;exact⟨rfl, .nil⟩
 ·cases h;exact⟨rfl, .refl _⟩
 ·cases h
theorem OE{a:EV Cn}{x:List zA}(h:Wn a=some x):Dec a (.sl (x.map (I.full 65))):=by
 unfold Wn at h;split at h
 ·cases h;exact⟨rfl, .nil⟩
 ·cases h;exact⟨rfl, .refl _⟩
 ·cases h
theorem Cv{a:EV Cn}{x:List zu}(h:Xj a=some x):Dec a (.sl (x.map (I.full 68))):=by
 unfold Xj at h;split at h
 ·cases h;exact⟨rfl, .nil⟩
 ·cases h;exact⟨rfl, .refl _⟩
 ·cases h
theorem NE{a:EV Cn}{x:List zC}(h:Vn a=some x):Dec a (.sl (x.map (I.full 72))):=by
 unfold Vn at h;split at h
 ·cases h;exact⟨rfl, .nil⟩
 ·cases h;exact⟨rfl, .refl _⟩
 ·cases h
theorem vO{a:EV Cn}{x:List zt}(h:Hu a=some x):Dec a (.sl (x.map (I.full 131))):=by
 unfold Hu at h;split at h
 ·cases h;exact⟨rfl, .nil⟩
 ·cases h;exact⟨rfl, .refl _⟩
 ·cases h
theorem Rh{a:EV Cn}{x:List ze}(h:Ag a=some x):Dec a (.sl (x.map (I.full 135))):=by
 unfold Ag at h;split at h
 ·cases h;exact⟨rfl, .nil⟩
 ·cases h;exact⟨rfl, .refl _⟩
 ·cases h
theorem uO{a:EV Cn}{x:List Zi}(h:Gu a=some x):Dec a (.sl (x.map (I.full 332))):=by
 unfold Gu at h;split at h
 ·cases h;exact⟨rfl, .nil⟩
 ·cases h;exact⟨rfl, .refl _⟩
 ·cases h
theorem gK(n:Nat): ∀(c:TC) (cs:List (EV Cn)) (x:Ct c),mC c cs=some x->All2 Dec cs (fC n c x)
 | .bool,cs,x,h=>by
  simp only[mC]at h;split at h
  ·obtain⟨x0,h0,h⟩:=Aa.1 h;injection h with h;subst h;exact .cons (xe h0) .nil
  ·cases h
 | .int_i32,cs,x,h=>by
  simp only[mC]at h;split at h
  ·obtain⟨x0,h0,h⟩:=Aa.1 h;injection h with h;subst h;exact .cons (xO h0) .nil
  ·cases h
 | .int_i64,cs,x,h=>by
  simp only[mC]at h;split at h
  ·obtain⟨x0,h0,h⟩:=Aa.1 h;injection h with h;subst h;exact .cons (Zk h0) .nil
  ·cases h
 | .int_u32,cs,x,h=>by
  simp only[mC]at h;split at h
  ·obtain⟨x0,h0,h⟩:=Aa.1 h;injection h with h;subst h;exact .cons (gP h0) .nil
  ·cases h
 | .int_u64,cs,x,h=>by
  simp only[mC]at h;split at h
  ·obtain⟨x0,h0,h⟩:=Aa.1 h;injection h with h;subst h;exact .cons (fP h0) .nil
  ·cases h
 | .int_u8,cs,x,h=>by
  simp only[mC]at h;split at h
  ·obtain⟨x0,h0,h⟩:=Aa.1 h;have:=WO h;subst this;exact .cons (Pf h0) .nil
  ·cases h
 | .sl_131,cs,x,h=>by
  simp only[mC]at h;split at h
  ·obtain⟨x0,h0,h⟩:=Aa.1 h;injection h with h;subst h;exact .cons (vO h0) .nil
  ·cases h
 | .sl_135,cs,x,h=>by
  simp only[mC]at h;split at h
  ·obtain⟨x0,h0,h⟩:=Aa.1 h;injection h with h;subst h;exact .cons (Rh h0) .nil
  ·cases h
 | .sl_2,cs,x,h=>by
  simp only[mC]at h;split at h
  ·obtain⟨x0,h0,h⟩:=Aa.1 h;injection h with h;subst h;exact .cons (JM h0) .nil
  ·cases h
 | .sl_31,cs,x,h=>by
  simp only[mC]at h;split at h
  ·obtain⟨x0,h0,h⟩:=Aa.1 h;injection h with h;subst h;exact .cons (CO h0) .nil
  ·cases h
 | .sl_33,cs,x,h=>by
  simp only[mC]at h;split at h
  ·obtain⟨x0,h0,h⟩:=Aa.1 h;injection h with h;subst h;exact .cons (SE h0) .nil
  ·cases h
 | .sl_332,cs,x,h=>by
  simp only[mC]at h;split at h
  ·obtain⟨x0,h0,h⟩:=Aa.1 h;injection h with h;subst h;exact .cons (uO h0) .nil
  ·cases h
 | .sl_36,cs,x,h=>by
  simp only[mC]at h;split at h
  ·obtain⟨x0,h0,h⟩:=Aa.1 h;injection h with h;subst h;exact .cons (Ev h0) .nil
  ·cases h
 | .sl_39,cs,x,h=>by
  simp only[mC]at h;split at h
  ·obtain⟨x0,h0,h⟩:=Aa.1 h;injection h with h;subst h;exact .cons (Dv h0) .nil
  ·cases h
 | .sl_5,cs,x,h=>by
  simp only[mC]at h;split at h
  ·obtain⟨x0,h0,h⟩:=Aa.1 h;injection h with h;subst h;exact .cons (GD h0) .nil
  ·cases h
 | .sl_59,cs,x,h=>by
  simp only[mC]at h;split at h
  ·obtain⟨x0,h0,h⟩:=Aa.1 h;injection h with h;subst h;exact .cons (PE h0) .nil
  ·cases h
 | .sl_65,cs,x,h=>by
  simp only[mC]at h;split at h
  ·obtain⟨x0,h0,h⟩:=Aa.1 h;injection h with h;subst h;exact .cons (OE h0) .nil
  ·cases h
 | .sl_68,cs,x,h=>by
  simp only[mC]at h;split at h
  ·obtain⟨x0,h0,h⟩:=Aa.1 h;injection h with h;subst h;exact .cons (Cv h0) .nil
  ·cases h
 | .sl_72,cs,x,h=>by
  simp only[mC]at h;split at h
  ·obtain⟨x0,h0,h⟩:=Aa.1 h;injection h with h;subst h;exact .cons (NE h0) .nil
  ·cases h
 | .sl_9,cs,x,h=>by
  simp only[mC]at h;split at h
  ·obtain⟨x0,h0,h⟩:=Aa.1 h;injection h with h;subst h;exact .cons (IM h0) .nil
  ·cases h
 | .st_VAnb,cs,x,h=>by
  simp only[mC]at h;split at h
  ·obtain⟨x0,h0,h⟩:=Aa.1 h;obtain⟨x1,h1,h⟩:=Aa.1 h;injection h with h;subst h;exact .cons (Zk h0) (.cons (Zk h1) .nil)
  ·cases h
 | .st_VArr12_str,cs,x,h=>by
  simp only[mC]at h;split at h
  ·obtain⟨x0,h0,h⟩:=Aa.1 h;obtain⟨x1,h1,h⟩:=Aa.1 h;obtain⟨x2,h2,h⟩:=Aa.1 h;obtain⟨x3,h3,h⟩:=Aa.1 h;obtain⟨x4,h4,h⟩:=Aa.1 h;obtain⟨x5,h5,h⟩:=Aa.1 h;obtain⟨x6,h6,h⟩:=Aa.1 h;obtain⟨x7,h7,h⟩:=Aa.1 h;obtain⟨x8,h8,h⟩:=Aa.1 h;obtain⟨x9,h9,h⟩:=Aa.1 h;obtain⟨x10,h10,h⟩:=Aa.1 h;obtain⟨x11,h11,h⟩:=Aa.1 h;injection h with h;subst h;exact .cons (Zr h0) (.cons (Zr h1) (.cons (Zr h2) (.cons (Zr h3) (.cons (Zr h4) (.cons (Zr h5) (.cons (Zr h6) (.cons (Zr h7) (.cons (Zr h8) (.cons (Zr h9) (.cons (Zr h10) (.cons (Zr h11) .nil)))))))))))
  ·cases h
 | .st_VArr2_str,cs,x,h=>by
  simp only[mC]at h;split at h
  ·obtain⟨x0,h0,h⟩:=Aa.1 h;obtain⟨x1,h1,h⟩:=Aa.1 h;injection h with h;subst h;exact .cons (Zr h0) (.cons (Zr h1) .nil)
  ·cases h
 | .st_VArr5_str,cs,x,h=>by
  simp only[mC]at h;split at h
  ·obtain⟨x0,h0,h⟩:=Aa.1 h;obtain⟨x1,h1,h⟩:=Aa.1 h;obtain⟨x2,h2,h⟩:=Aa.1 h;obtain⟨x3,h3,h⟩:=Aa.1 h;obtain⟨x4,h4,h⟩:=Aa.1 h;injection h with h;subst h;exact .cons (Zr h0) (.cons (Zr h1) (.cons (Zr h2) (.cons (Zr h3) (.cons (Zr h4) .nil))))
  ·cases h
 | .st_VArr7_str,cs,x,h=>by
  simp only[mC]at h;split at h
  ·obtain⟨x0,h0,h⟩:=Aa.1 h;obtain⟨x1,h1,h⟩:=Aa.1 h;obtain⟨x2,h2,h⟩:=Aa.1 h;obtain⟨x3,h3,h⟩:=Aa.1 h;obtain⟨x4,h4,h⟩:=Aa.1 h;obtain⟨x5,h5,h⟩:=Aa.1 h;obtain⟨x6,h6,h⟩:=Aa.1 h;injection h with h;subst h;exact .cons (Zr h0) (.cons (Zr h1) (.cons (Zr h2) (.cons (Zr h3) (.cons (Zr h4) (.cons (Zr h5) (.cons (Zr h6) .nil))))))
  ·cases h
 | .st_VComplex,cs,x,h=>by
  simp only[mC]at h;split at h
  ·obtain⟨x0,h0,h⟩:=Aa.1 h;obtain⟨x1,h1,h⟩:=Aa.1 h;obtain⟨x2,h2,h⟩:=Aa.1 h;injection h with h;subst h;show All2 Dec _ (Qj _);simp only[Qj,qz,qb,qP];exact .cons (Pf h0) (.cons (OE h1) (.cons (GD h2) .nil))
  ·cases h
 | .st_VCompound,cs,x,h=>by
  simp only[mC]at h;split at h
  ·obtain⟨x0,h0,h⟩:=Aa.1 h;obtain⟨x1,h1,h⟩:=Aa.1 h;injection h with h;subst h;show All2 Dec _ (Qk _);simp only[Qk,qz,qb,qP];exact .cons (Zr h0) (.cons (NE h1) .nil)
  ·cases h
 | .st_VCond,cs,x,h=>by
  simp only[mC]at h;split at h
  ·obtain⟨x0,h0,h⟩:=Aa.1 h;obtain⟨x1,h1,h⟩:=Aa.1 h;obtain⟨x2,h2,h⟩:=Aa.1 h;obtain⟨x3,h3,h⟩:=Aa.1 h;obtain⟨x4,h4,h⟩:=Aa.1 h;obtain⟨x5,h5,h⟩:=Aa.1 h;obtain⟨x6,h6,h⟩:=Aa.1 h;injection h with h;subst h;show All2 Dec _ (Fg _);simp only[Fg,Ny];exact .cons (Pf h0) (.cons (Zr h1) (.cons (Zk h2) (.cons (Zr h3) (.cons (Rh h4) (.cons (xe h5) (.cons (Ev h6) .nil))))))
  ·cases h
 | .st_VDecl,cs,x,h=>by
  simp only[mC]at h;split at h
  ·obtain⟨x0,h0,h⟩:=Aa.1 h;obtain⟨x1,h1,h⟩:=Aa.1 h;obtain⟨x2,h2,h⟩:=Aa.1 h;injection h with h;subst h;exact .cons (Zr h0) (.cons (Rh h1) (.cons (xe h2) .nil))
  ·cases h
 | .st_VRule,cs,x,h=>by
  simp only[mC]at h;split at h
  ·obtain⟨x0,h0,h⟩:=Aa.1 h;obtain⟨x1,h1,h⟩:=Aa.1 h;obtain⟨x2,h2,h⟩:=Aa.1 h;obtain⟨x3,h3,h⟩:=Aa.1 h;obtain⟨x4,h4,h⟩:=Aa.1 h;obtain⟨x5,h5,h⟩:=Aa.1 h;obtain⟨x6,h6,h⟩:=Aa.1 h;obtain⟨x7,h7,h⟩:=Aa.1 h;obtain⟨x8,h8,h⟩:=Aa.1 h;obtain⟨x9,h9,h⟩:=Aa.1 h;obtain⟨x10,h10,h⟩:=Aa.1 h;obtain⟨x11,h11,h⟩:=Aa.1 h;injection h with h;subst h;show All2 Dec _ (Eg _);simp only[Eg,Ky];exact .cons (Pf h0) (.cons (Cv h1) (.cons (SE h2) (.cons (Pf h3) (.cons (Zr h4) (.cons (Zk h5) (.cons (Zr h6) (.cons (Rh h7) (.cons (xe h8) (.cons (Ev h9) (.cons (PE h10) (.cons (Dv h11) .nil)))))))))))
  ·cases h
 | .st_VSheet,cs,x,h=>by
  simp only[mC]at h;split at h
  ·obtain⟨x0,h0,h⟩:=Aa.1 h;injection h with h;subst h;exact .cons (Dv h0) .nil
  ·cases h
 | .st_VSimple,cs,x,h=>by
  simp only[mC]at h;split at h
  ·obtain⟨x0,h0,h⟩:=Aa.1 h;obtain⟨x1,h1,h⟩:=Aa.1 h;obtain⟨x2,h2,h⟩:=Aa.1 h;obtain⟨x3,h3,h⟩:=Aa.1 h;obtain⟨x4,h4,h⟩:=Aa.1 h;obtain⟨x5,h5,h⟩:=Aa.1 h;obtain⟨x6,h6,h⟩:=Aa.1 h;obtain⟨x7,h7,h⟩:=Aa.1 h;obtain⟨x8,h8,h⟩:=Aa.1 h;injection h with h;subst h;show All2 Dec _ (mg _);simp only[mg,qz,qb,qP];exact .cons (Pf h0) (.cons (Zr h1) (.cons (Pf h2) (.cons (Zr h3) (.cons (xe h4) (.cons (Zk h5) (.cons (Zk h6) (.cons (xe h7) (.cons (Cv h8) .nil))))))))
  ·cases h
 | .st_VToken,cs,x,h=>by
  simp only[mC]at h;split at h
  ·obtain⟨x0,h0,h⟩:=Aa.1 h;obtain⟨x1,h1,h⟩:=Aa.1 h;obtain⟨x2,h2,h⟩:=Aa.1 h;obtain⟨x3,h3,h⟩:=Aa.1 h;obtain⟨x4,h4,h⟩:=Aa.1 h;injection h with h;subst h;exact .cons (Pf h0) (.cons (Zr h1) (.cons (Zk h2) (.cons (Zr h3) (.cons (xe h4) .nil))))
  ·cases h
 | .st_VValue,cs,x,h=>by
  simp only[mC]at h;split at h
  ·obtain⟨x0,h0,h⟩:=Aa.1 h;obtain⟨x1,h1,h⟩:=Aa.1 h;obtain⟨x2,h2,h⟩:=Aa.1 h;obtain⟨x3,h3,h⟩:=Aa.1 h;obtain⟨x4,h4,h⟩:=Aa.1 h;obtain⟨x5,h5,h⟩:=Aa.1 h;injection h with h;subst h;show All2 Dec _ (qx _);simp only[qx,Az];exact .cons (Pf h0) (.cons (Zr h1) (.cons (Zk h2) (.cons (Zr h3) (.cons (xe h4) (.cons (Rh h5) .nil)))))
  ·cases h
 | .st_Vcond_reader,cs,x,h=>by
  simp only[mC]at h;split at h
  ·obtain⟨x0,h0,h⟩:=Aa.1 h;injection h with h;subst h;exact .cons (Rh h0) .nil
  ·cases h
 | .st_Vglue_start,cs,x,h=>by
  simp only[mC]at h;split at h
  ·obtain⟨x0,h0,h⟩:=Aa.1 h;obtain⟨x1,h1,h⟩:=Aa.1 h;injection h with h;subst h;exact .cons (Zk h0) (.cons (Zk h1) .nil)
  ·cases h
 | .st_Vnest_found,cs,x,h=>by
  simp only[mC]at h;split at h
  ·obtain⟨x0,h0,h⟩:=Aa.1 h;obtain⟨x1,h1,h⟩:=Aa.1 h;obtain⟨x2,h2,h⟩:=Aa.1 h;injection h with h;subst h;exact .cons (Zk h0) (.cons (Zk h1) (.cons (xe h2) .nil))
  ·cases h
 | .st_Vruntime_boundsError,cs,x,h=>by
  simp only[mC]at h;split at h
  ·obtain⟨x0,h0,h⟩:=Aa.1 h;obtain⟨x1,h1,h⟩:=Aa.1 h;obtain⟨x2,h2,h⟩:=Aa.1 h;obtain⟨x3,h3,h⟩:=Aa.1 h;injection h with h;subst h;exact .cons (Zk h0) (.cons (Zk h1) (.cons (xe h2) (.cons (Pf h3) .nil)))
  ·cases h
 | .st_Vseltext_place,cs,x,h=>by
  simp only[mC]at h;split at h
  ·obtain⟨x0,h0,h⟩:=Aa.1 h;obtain⟨x1,h1,h⟩:=Aa.1 h;injection h with h;subst h;exact .cons (Zk h0) (.cons (xe h1) .nil)
  ·cases h
 | .st_Vseltext_reader,cs,x,h=>by
  simp only[mC]at h;split at h
  ·obtain⟨x0,h0,h⟩:=Aa.1 h;obtain⟨x1,h1,h⟩:=Aa.1 h;injection h with h;subst h;exact .cons (Rh h0) (.cons (Zk h1) .nil)
  ·cases h
 | .st_Vsheet_found,cs,x,h=>by
  simp only[mC]at h;split at h
  ·obtain⟨x0,h0,h⟩:=Aa.1 h;obtain⟨x1,h1,h⟩:=Aa.1 h;obtain⟨x2,h2,h⟩:=Aa.1 h;injection h with h;subst h;exact .cons (Zk h0) (.cons (Zk h1) (.cons (xe h2) .nil))
  ·cases h
 | .st_Vsheet_parser,cs,x,h=>by
  simp only[mC]at h;split at h
  ·obtain⟨x0,h0,h⟩:=Aa.1 h;obtain⟨x1,h1,h⟩:=Aa.1 h;injection h with h;subst h;exact .cons (Zk h0) (.cons (Zk h1) .nil)
  ·cases h
 | .st_Vtoken_scanner,cs,x,h=>by
  simp only[mC]at h;split at h
  ·obtain⟨x0,h0,h⟩:=Aa.1 h;obtain⟨x1,h1,h⟩:=Aa.1 h;injection h with h;subst h;exact .cons (Zr h0) (.cons (Zk h1) .nil)
  ·cases h
 | .str,cs,x,h=>by
  simp only[mC]at h;split at h
  ·obtain⟨x0,h0,h⟩:=Aa.1 h;injection h with h;subst h;exact .cons (Zr h0) .nil
  ·cases h
 | .other,cs,x,h=>by cases h
theorem fe(n:Nat): ∀(c:TC) (x:Ct c),fC n c x=(eC n c x).map (pvE I)
 | .bool,x=>rfl
 | .int_i32,x=>rfl
 | .int_i64,x=>rfl
 | .int_u32,x=>rfl
 | .int_u64,x=>rfl
 | .int_u8,x=>rfl
 | .sl_131,x=>rfl
 | .sl_135,x=>rfl
 | .sl_2,x=>rfl
 | .sl_31,x=>rfl
 | .sl_33,x=>rfl
 | .sl_332,x=>rfl
 | .sl_36,x=>rfl
 | .sl_39,x=>rfl
 | .sl_5,x=>rfl
 | .sl_59,x=>rfl
 | .sl_65,x=>rfl
 | .sl_68,x=>rfl
 | .sl_72,x=>rfl
 | .sl_9,x=>rfl
 | .st_VAnb,x=>rfl
 | .st_VArr12_str,x=>rfl
 | .st_VArr2_str,x=>rfl
 | .st_VArr5_str,x=>rfl
 | .st_VArr7_str,x=>rfl
 | .st_VComplex,(x:zu)=>by obtain⟨x_lead,x_parts,x_combs⟩:=x;show Qj _=_;simp only[Qj,qz,qb,qP];rfl
 | .st_VCompound,(x:zA)=>by obtain⟨x_tag,x_simples⟩:=x;show Qk _=_;simp only[Qk,qz,qb,qP];rfl
 | .st_VCond,(x:zq)=>by obtain⟨x_kind,x_name,x_num,x_decl,x_list⟩:=x;show Fg _=_;simp only[Fg,Ny];rfl
 | .st_VDecl,x=>rfl
 | .st_VRule,(x:zD)=>by obtain⟨x_kind,x_selectors,x_decls,x_cond,x_names,x_rules⟩:=x;show Eg _=_;simp only[Eg,Ky];rfl
 | .st_VSheet,x=>rfl
 | .st_VSimple,(x:zC)=>by obtain⟨x_kind,x_name,x_op,x_value,x_fold,x_anb,x_of_,x_list⟩:=x;show mg _=_;simp only[mg,qz,qb,qP];rfl
 | .st_VToken,x=>rfl
 | .st_VValue,(x:ze)=>by obtain⟨x_token,x_list⟩:=x;show qx _=_;simp only[qx,Az];rfl
 | .st_Vcond_reader,x=>rfl
 | .st_Vglue_start,x=>rfl
 | .st_Vnest_found,x=>rfl
 | .st_Vruntime_boundsError,x=>rfl
 | .st_Vseltext_place,x=>rfl
 | .st_Vseltext_reader,x=>rfl
 | .st_Vsheet_found,x=>rfl
 | .st_Vsheet_parser,x=>rfl
 | .st_Vtoken_scanner,x=>rfl
 | .str,x=>rfl
 | .other,x=>by show List.replicate n (PV.at (Value.slice none 0 0))=(List.replicate n EV.nil).map (pvE I);rw[List.map_replicate];rfl
theorem kL(n:Nat)(c:TC)(x:Ct c)(h:c≠ .other->n=size c):(eC n c x).length=n:=by
 cases c
 case other=>simp[eC]
 all_goals (rw[h (by simp)];rfl)
theorem uK(n:Nat): ∀(c:TC) (x:Ct c),(eC n c x).all (Tf (I:=I))=true
 | .bool,x=>rfl
 | .int_i32,x=>rfl
 | .int_i64,x=>rfl
 | .int_u32,x=>rfl
 | .int_u64,x=>rfl
 | .int_u8,x=>rfl
 | .sl_131,x=>rfl
 | .sl_135,x=>rfl
 | .sl_2,x=>rfl
 | .sl_31,x=>rfl
 | .sl_33,x=>rfl
 | .sl_332,x=>rfl
 | .sl_36,x=>rfl
 | .sl_39,x=>rfl
 | .sl_5,x=>rfl
 | .sl_59,x=>rfl
 | .sl_65,x=>rfl
 | .sl_68,x=>rfl
 | .sl_72,x=>rfl
 | .sl_9,x=>rfl
 | .st_VAnb,x=>rfl
 | .st_VArr12_str,x=>rfl
 | .st_VArr2_str,x=>rfl
 | .st_VArr5_str,x=>rfl
 | .st_VArr7_str,x=>rfl
 | .st_VComplex,x=>rfl
 | .st_VCompound,x=>rfl
 | .st_VCond,x=>rfl
 | .st_VDecl,x=>rfl
 | .st_VRule,x=>rfl
 | .st_VSheet,x=>rfl
 | .st_VSimple,x=>rfl
 | .st_VToken,x=>rfl
 | .st_VValue,x=>rfl
 | .st_Vcond_reader,x=>rfl
 | .st_Vglue_start,x=>rfl
 | .st_Vnest_found,x=>rfl
 | .st_Vruntime_boundsError,x=>rfl
 | .st_Vseltext_place,x=>rfl
 | .st_Vseltext_reader,x=>rfl
 | .st_Vsheet_found,x=>rfl
 | .st_Vsheet_parser,x=>rfl
 | .st_Vtoken_scanner,x=>rfl
 | .str,x=>rfl
 | .other,x=>by show(List.replicate n EV.nil).all (Tf (I:=I))=true;rw[Cb];intro v hv;rw[(List.mem_replicate.1 hv).2];rfl
theorem SK:(tab.all fun p=>match p.2 with| .int_u8=>(match kdOf Tryz.prog p.1 with| .int .u8=>true|_=>false)|_=>true)=true:=by kernel_rfl
theorem MK(t:Nat)(h:tc t= .int_u8):kdOf Tryz.prog t= .int .u8:=by
 unfold tc at h;cases hl:lk tab t with
 |none=>rw[hl]at h;cases h
 |some c=>
  rw[hl]at h;have h:c= .int_u8:=h;subst h;have:=Cb.1 SK _ (Md hl);simp only at this;split at this
  ·assumption
  ·cases this
theorem iM(n:Nat): ∀(c:TC) (p:(List UInt8->List (Ct c))×(List (Ct c)->List UInt8)),bC c=some p->(∀l,(p.1 l).map (fC n c)=l.map fun b=>[PV.at (.int .u8 b.toNat)])/\(∀l,l.map (fC n c)=(p.2 l).map fun b=>[PV.at (.int .u8 b.toNat)])/\c= .int_u8:=by
 intro c p h;cases c
 case int_u8=>cases h;exact⟨fun l=>rfl,fun l=>rfl,rfl⟩
 all_goals cases h
theorem BL(t:Nat)(p:(List UInt8->List (I.C t))×(List (I.C t)->List UInt8))(h:I.byt t=some p):(∀l,(p.1 l).map (I.full t)=l.map fun b=>[PV.at (.int .u8 b.toNat)])/\(∀l,l.map (I.full t)=(p.2 l).map fun b=>[PV.at (.int .u8 b.toNat)])/\kdOf Tryz.prog t= .int .u8:=by obtain⟨h1,h2,h3⟩:=iM (Tryz.prog.cellsOf t) (tc t) p h;exact⟨h1,h2,MK t h3⟩
theorem ipOK:IpOK Tryz.prog I where
 len:=fun t x=>by show(fC _ _ x).length=_;exact(congrArg List.length (fe _ (tc t) x)).trans ((Ja ..).trans (kL _ (tc t) x (MM t)))
 exp:=fun t x=>fe _ _ x
 pur:=fun t x v hv=>Cb.1 (uK _ _ x) v hv
 made:=fun t cs x h=>decs (gK _ _ cs x h)
 byt:=BL
noncomputable def T:TT:=[(2,ti Tryz.prog 2),(3,ti Tryz.prog 3),(4,ti Tryz.prog 4),(5,ti Tryz.prog 5),(6,ti Tryz.prog 6),(7,ti Tryz.prog 7),(9,ti Tryz.prog 9),(11,ti Tryz.prog 11),(21,ti Tryz.prog 21),(23,ti Tryz.prog 23),(25,ti Tryz.prog 25),(26,ti Tryz.prog 26),(29,ti Tryz.prog 29),(30,ti Tryz.prog 30),(31,ti Tryz.prog 31),(33,ti Tryz.prog 33),(34,ti Tryz.prog 34),(36,ti Tryz.prog 36),(37,ti Tryz.prog 37),(39,ti Tryz.prog 39),(42,ti Tryz.prog 42),(59,ti Tryz.prog 59),(63,ti Tryz.prog 63),(65,ti Tryz.prog 65),(66,ti Tryz.prog 66),(68,ti Tryz.prog 68),(70,ti Tryz.prog 70),(72,ti Tryz.prog 72),(73,ti Tryz.prog 73),(77,ti Tryz.prog 77),(80,ti Tryz.prog 80),(90,ti Tryz.prog 90),(116,ti Tryz.prog 116),(118,ti Tryz.prog 118),(126,ti Tryz.prog 126),(131,ti Tryz.prog 131),(133,ti Tryz.prog 133),(135,ti Tryz.prog 135),(141,ti Tryz.prog 141),(151,ti Tryz.prog 151),(155,ti Tryz.prog 155),(166,ti Tryz.prog 166),(181,ti Tryz.prog 181),(190,ti Tryz.prog 190),(192,ti Tryz.prog 192),(218,ti Tryz.prog 218),(223,ti Tryz.prog 223),(240,ti Tryz.prog 240),(242,ti Tryz.prog 242),(258,ti Tryz.prog 258),(259,ti Tryz.prog 259),(272,ti Tryz.prog 272),(294,ti Tryz.prog 294),(306,ti Tryz.prog 306),(307,ti Tryz.prog 307),(311,ti Tryz.prog 311),(316,ti Tryz.prog 316),(326,ti Tryz.prog 326),(330,ti Tryz.prog 330),(332,ti Tryz.prog 332),(335,ti Tryz.prog 335),(361,ti Tryz.prog 361),(363,ti Tryz.prog 363),(372,ti Tryz.prog 372)]
def FK:List (Nat×List Kd):=[(70,[.int .i64, .int .i64]),(131,[.int .u8, .str, .int .i64, .str, .bool])]
theorem tok:TOK Tryz.prog T FK:=Bt (l:=[2,3,4,5,6,7,9,11,21,23,25,26,29,30,31,33,34,36,37,39,42,59,63,65,66,68,70,72,73,77,80,90,116,118,126,131,133,135,141,151,155,166,181,190,192,218,223,240,242,258,259,272,294,306,307,311,316,326,330,332,335,361,363,372]) (by
 intro p hp;simp only[FK,Ua,List.not_mem_nil,or_false]at hp;rcases hp with rfl|rfl<;>kernel_rfl)
theorem mixed:Tryz.prog.follows .mixedOrders=true:=by kernel_rfl
noncomputable def body(f:Go.Func):Code:=match f.body with|some c=>c|none=> .skip
noncomputable def rsl(f:Go.Func):List ResultVar:=f.results.toList
end Go.Lv.VT
