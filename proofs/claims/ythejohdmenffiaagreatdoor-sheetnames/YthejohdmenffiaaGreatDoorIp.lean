/- What stands for the values of types. -/
import Derived.Test.YthejohdmenffiaaGreatDoorProg
import Derived.Test.YthejohdmenffiaaGreatDoorLf
import Derived.Test.YthejohdmenffiaaGreatDoorTy
import Derived.KernelRfl
set_option linter.unusedSimpArgs false
set_option linter.unusedVariables false
namespace Go.Lv.VT
set_option maxRecDepth 100000
open Go.Proofs
inductive TC where
 |bool|int_i32|int_i64|int_u32|int_u64|int_u8|sl_128|sl_132|sl_146|sl_149|sl_153|sl_2|sl_31|sl_33|sl_36|sl_39|sl_5|sl_74|sl_9|st_VAnb|st_VComplex|st_VCompound|st_VCond|st_VDecl|st_VRule|st_VSheet|st_VSimple|st_VToken|st_VValue|st_Vcond_reader|st_Vnest_found|st_Vruntime_boundsError|st_Vseltext_place|st_Vseltext_reader|st_Vsheet_found|st_Vsheet_parser|st_Vtoken_scanner|str|other
def Ct:TC->Type
 | .bool=>Bool| .int_i32=>Int| .int_i64=>Int| .int_u32=>Int| .int_u64=>Int| .int_u8=>UInt8| .sl_128=>List zq| .sl_132=>List ze| .sl_146=>List zw| .sl_149=>List zy| .sl_153=>List zA| .sl_2=>List Int| .sl_31=>List (List ze)| .sl_33=>List zV| .sl_36=>List zt| .sl_39=>List zL| .sl_5=>List UInt8| .sl_74=>List (List Str)| .sl_9=>List Str| .st_VAnb=>VAnb| .st_VComplex=>zw| .st_VCompound=>zy| .st_VCond=>zt| .st_VDecl=>zV| .st_VRule=>zL| .st_VSheet=>Qi| .st_VSimple=>zA| .st_VToken=>zq| .st_VValue=>ze| .st_Vcond_reader=>zm| .st_Vnest_found=>zP| .st_Vruntime_boundsError=>ZM| .st_Vseltext_place=>zf| .st_Vseltext_reader=>zh| .st_Vsheet_found=>zB| .st_Vsheet_parser=>zo| .st_Vtoken_scanner=>za| .str=>Str| .other=>Unit
def tab:List (Nat×TC):=[(2, .int_i64),(3, .int_i64),(4, .bool),(5, .int_u8),(6, .int_u8),(7, .st_Vruntime_boundsError),(9, .str),(11, .str),(21, .int_i32),(23, .sl_39),(25, .st_VSheet),(26, .int_i64),(29, .sl_146),(30, .sl_33),(31, .sl_132),(33, .st_VDecl),(34, .sl_36),(36, .st_VCond),(37, .sl_74),(39, .st_VRule),(42, .sl_5),(69, .st_Vsheet_found),(72, .st_Vsheet_parser),(74, .sl_9),(91, .sl_128),(128, .st_VToken),(130, .sl_31),(132, .st_VValue),(144, .sl_149),(146, .st_VComplex),(147, .sl_153),(149, .st_VCompound),(151, .st_VAnb),(153, .st_VSimple),(157, .st_Vseltext_place),(161, .st_Vnest_found),(199, .st_Vtoken_scanner),(251, .st_Vcond_reader),(281, .int_u32),(325, .int_u64),(334, .sl_2),(368, .st_Vseltext_reader)]
def tc(t:Nat):TC:=match lk tab t with|some c=>c|none=> .other
def Cn(t:Nat):Type:=Ct (tc t)
def dC:(c:TC)->Ct c
 | .bool=>(default:Bool)| .int_i32=>(default:Int)| .int_i64=>(default:Int)| .int_u32=>(default:Int)| .int_u64=>(default:Int)| .int_u8=>(default:UInt8)| .sl_128=>(default:List zq)| .sl_132=>(default:List ze)| .sl_146=>(default:List zw)| .sl_149=>(default:List zy)| .sl_153=>(default:List zA)| .sl_2=>(default:List Int)| .sl_31=>(default:List (List ze))| .sl_33=>(default:List zV)| .sl_36=>(default:List zt)| .sl_39=>(default:List zL)| .sl_5=>(default:List UInt8)| .sl_74=>(default:List (List Str))| .sl_9=>(default:List Str)| .st_VAnb=>(default:VAnb)| .st_VComplex=>(default:zw)| .st_VCompound=>(default:zy)| .st_VCond=>(default:zt)| .st_VDecl=>(default:zV)| .st_VRule=>(default:zL)| .st_VSheet=>(default:Qi)| .st_VSimple=>(default:zA)| .st_VToken=>(default:zq)| .st_VValue=>(default:ze)| .st_Vcond_reader=>(default:zm)| .st_Vnest_found=>(default:zP)| .st_Vruntime_boundsError=>(default:ZM)| .st_Vseltext_place=>(default:zf)| .st_Vseltext_reader=>(default:zh)| .st_Vsheet_found=>(default:zB)| .st_Vsheet_parser=>(default:zo)| .st_Vtoken_scanner=>(default:za)| .str=>(default:Str)| .other=>()
def size:TC->Nat
 | .st_VAnb=>2| .st_VComplex=>3| .st_VCompound=>2| .st_VCond=>7| .st_VDecl=>3| .st_VRule=>12| .st_VSimple=>9| .st_VToken=>5| .st_VValue=>6| .st_Vnest_found=>3| .st_Vruntime_boundsError=>4| .st_Vseltext_place=>2| .st_Vseltext_reader=>2| .st_Vsheet_found=>3| .st_Vsheet_parser=>2| .st_Vtoken_scanner=>2|_=>1
def kK(x:VAnb):List PV:=[.at (.int .i64 x.a), .at (.int .i64 x.b)]
mutual
def Q9:zw->List PV
 |⟨x_lead,x_parts,x_combs⟩=>[.at (.int .u8 x_lead), .sl (Cm x_parts), .sl (x_combs.map (fun y=>[.at (.int .u8 y.toNat)]))]
def Im:List zw->List (List PV)
 |[]=>[]
 |v::r=>Q9 v::Im r
def Jg:zy->List PV
 |⟨x_tag,x_simples⟩=>[.str x_tag, .sl (Vl x_simples)]
def Cm:List zy->List (List PV)
 |[]=>[]
 |v::r=>Jg v::Cm r
def Hg:zA->List PV
 |⟨x_kind,x_name,x_op,x_value,x_fold,x_anb,x_of_,x_list⟩=>[.at (.int .u8 x_kind), .str x_name, .at (.int .u8 x_op), .str x_value, .at (.bool x_fold), .at (.int .i64 x_anb.a), .at (.int .i64 x_anb.b), .at (.bool x_of_), .sl (Im x_list)]
def Vl:List zA->List (List PV)
 |[]=>[]
 |v::r=>Hg v::Vl r
end
theorem Qp: ∀(l:List zw),Im l=l.map Q9
 |[]=>by rw[Im];rfl
 |v::r=>by rw[Im,Qp r];rfl
theorem qM: ∀(l:List zy),Cm l=l.map Jg
 |[]=>by rw[Cm];rfl
 |v::r=>by rw[Cm,qM r];rfl
theorem QG: ∀(l:List zA),Vl l=l.map Hg
 |[]=>by rw[Vl];rfl
 |v::r=>by rw[Vl,QG r];rfl
def jD(x:zq):List PV:=[.at (.int .u8 x.kind), .str x.text, .at (.int .i64 x.num), .str x.unit, .at (.bool x.flag)]
mutual
def Qm:ze->List PV
 |⟨x_token,x_list⟩=>[.at (.int .u8 x_token.kind), .str x_token.text, .at (.int .i64 x_token.num), .str x_token.unit, .at (.bool x_token.flag), .sl (Bl x_list)]
def Bl:List ze->List (List PV)
 |[]=>[]
 |v::r=>Qm v::Bl r
end
theorem Fy: ∀(l:List ze),Bl l=l.map Qm
 |[]=>by rw[Bl];rfl
 |v::r=>by rw[Bl,Fy r];rfl
def Gv(x:zV):List PV:=[.str x.name, .sl (x.value.map Qm), .at (.bool x.important)]
mutual
def Tf:zt->List PV
 |⟨x_kind,x_name,x_num,x_decl,x_list⟩=>[.at (.int .u8 x_kind), .str x_name, .at (.int .i64 x_num), .str x_decl.name, .sl (x_decl.value.map Qm), .at (.bool x_decl.important), .sl (Xk x_list)]
def Xk:List zt->List (List PV)
 |[]=>[]
 |v::r=>Tf v::Xk r
end
theorem Lx: ∀(l:List zt),Xk l=l.map Tf
 |[]=>by rw[Xk];rfl
 |v::r=>by rw[Xk,Lx r];rfl
mutual
def Rf:zL->List PV
 |⟨x_kind,x_selectors,x_decls,x_cond,x_names,x_rules⟩=>[.at (.int .u8 x_kind), .sl (x_selectors.map Q9), .sl (x_decls.map Gv), .at (.int .u8 x_cond.kind), .str x_cond.name, .at (.int .i64 x_cond.num), .str x_cond.decl.name, .sl (x_cond.decl.value.map Qm), .at (.bool x_cond.decl.important), .sl (x_cond.list.map Tf), .sl (x_names.map (fun y=>[.sl (y.map (fun y=>[.str y]))])), .sl (Vk x_rules)]
def Vk:List zL->List (List PV)
 |[]=>[]
 |v::r=>Rf v::Vk r
end
theorem Gx: ∀(l:List zL),Vk l=l.map Rf
 |[]=>by rw[Vk];rfl
 |v::r=>by rw[Vk,Gx r];rfl
def XM(x:Qi):List PV:=[.sl (x.rules.map Rf)]
def LQ(x:zm):List PV:=[.sl (x.v.map Qm)]
def iP(x:zP):List PV:=[.at (.int .i64 x.depth), .at (.int .i64 x.tokens), .at (.bool x.bad)]
def sS(x:ZM):List PV:=[.at (.int .i64 x.x), .at (.int .i64 x.y), .at (.bool x.signed), .at (.int .u8 x.code)]
def dQ(x:zf):List PV:=[.at (.int .i64 x.deep), .at (.bool x.has)]
def AR(x:zh):List PV:=[.sl (x.v.map Qm), .at (.int .i64 x.at_)]
def KQ(x:zB):List PV:=[.at (.int .i64 x.rules), .at (.int .i64 x.depth), .at (.bool x.bad)]
def jQ(x:zo):List PV:=[.at (.int .i64 x.room), .at (.int .i64 x.constructs)]
def bQ(x:za):List PV:=[.str x.s, .at (.int .i64 x.at_)]
def fC(n:Nat):(c:TC)->Ct c->List PV
 | .bool,(x:Bool)=>[.at (.bool x)]
 | .int_i32,(x:Int)=>[.at (.int .i32 x)]
 | .int_i64,(x:Int)=>[.at (.int .i64 x)]
 | .int_u32,(x:Int)=>[.at (.int .u32 x)]
 | .int_u64,(x:Int)=>[.at (.int .u64 x)]
 | .int_u8,(x:UInt8)=>[.at (.int .u8 x.toNat)]
 | .sl_128,(x:List zq)=>[.sl (x.map jD)]
 | .sl_132,(x:List ze)=>[.sl (x.map Qm)]
 | .sl_146,(x:List zw)=>[.sl (x.map Q9)]
 | .sl_149,(x:List zy)=>[.sl (x.map Jg)]
 | .sl_153,(x:List zA)=>[.sl (x.map Hg)]
 | .sl_2,(x:List Int)=>[.sl (x.map (fun y=>[.at (.int .i64 y)]))]
 | .sl_31,(x:List (List ze))=>[.sl (x.map (fun y=>[.sl (y.map Qm)]))]
 | .sl_33,(x:List zV)=>[.sl (x.map Gv)]
 | .sl_36,(x:List zt)=>[.sl (x.map Tf)]
 | .sl_39,(x:List zL)=>[.sl (x.map Rf)]
 | .sl_5,(x:List UInt8)=>[.sl (x.map (fun y=>[.at (.int .u8 y.toNat)]))]
 | .sl_74,(x:List (List Str))=>[.sl (x.map (fun y=>[.sl (y.map (fun y=>[.str y]))]))]
 | .sl_9,(x:List Str)=>[.sl (x.map (fun y=>[.str y]))]
 | .st_VAnb,(x:VAnb)=>kK x
 | .st_VComplex,(x:zw)=>Q9 x
 | .st_VCompound,(x:zy)=>Jg x
 | .st_VCond,(x:zt)=>Tf x
 | .st_VDecl,(x:zV)=>Gv x
 | .st_VRule,(x:zL)=>Rf x
 | .st_VSheet,(x:Qi)=>XM x
 | .st_VSimple,(x:zA)=>Hg x
 | .st_VToken,(x:zq)=>jD x
 | .st_VValue,(x:ze)=>Qm x
 | .st_Vcond_reader,(x:zm)=>LQ x
 | .st_Vnest_found,(x:zP)=>iP x
 | .st_Vruntime_boundsError,(x:ZM)=>sS x
 | .st_Vseltext_place,(x:zf)=>dQ x
 | .st_Vseltext_reader,(x:zh)=>AR x
 | .st_Vsheet_found,(x:zB)=>KQ x
 | .st_Vsheet_parser,(x:zo)=>jQ x
 | .st_Vtoken_scanner,(x:za)=>bQ x
 | .str,(x:Str)=>[.str x]
 | .other,_=>List.replicate n (.at (.slice none 0 0))
def eC(n:Nat):(c:TC)->Ct c->List (EV Cn)
 | .bool,(x:Bool)=>[.bool x]
 | .int_i32,(x:Int)=>[.int .i32 x]
 | .int_i64,(x:Int)=>[.int .i64 x]
 | .int_u32,(x:Int)=>[.int .u32 x]
 | .int_u64,(x:Int)=>[.int .u64 x]
 | .int_u8,(x:UInt8)=>[.int .u8 (x.toNat:Int)]
 | .sl_128,(x:List zq)=>[.sl 128 x]
 | .sl_132,(x:List ze)=>[.sl 132 x]
 | .sl_146,(x:List zw)=>[.sl 146 x]
 | .sl_149,(x:List zy)=>[.sl 149 x]
 | .sl_153,(x:List zA)=>[.sl 153 x]
 | .sl_2,(x:List Int)=>[.sl 2 x]
 | .sl_31,(x:List (List ze))=>[.sl 31 x]
 | .sl_33,(x:List zV)=>[.sl 33 x]
 | .sl_36,(x:List zt)=>[.sl 36 x]
 | .sl_39,(x:List zL)=>[.sl 39 x]
 | .sl_5,(x:List UInt8)=>[.sl 5 x]
 | .sl_74,(x:List (List Str))=>[.sl 74 x]
 | .sl_9,(x:List Str)=>[.sl 9 x]
 | .st_VAnb,(x:VAnb)=>[.int .i64 x.a, .int .i64 x.b]
 | .st_VComplex,(x:zw)=>[.int .u8 x.lead, .sl 149 x.parts, .sl 5 x.combs]
 | .st_VCompound,(x:zy)=>[.str x.tag, .sl 153 x.simples]
 | .st_VCond,(x:zt)=>[.int .u8 x.kind, .str x.name, .int .i64 x.num, .str x.decl.name, .sl 132 x.decl.value, .bool x.decl.important, .sl 36 x.list]
 | .st_VDecl,(x:zV)=>[.str x.name, .sl 132 x.value, .bool x.important]
 | .st_VRule,(x:zL)=>[.int .u8 x.kind, .sl 146 x.selectors, .sl 33 x.decls, .int .u8 x.cond.kind, .str x.cond.name, .int .i64 x.cond.num, .str x.cond.decl.name, .sl 132 x.cond.decl.value, .bool x.cond.decl.important, .sl 36 x.cond.list, .sl 74 x.names, .sl 39 x.rules]
 | .st_VSheet,(x:Qi)=>[.sl 39 x.rules]
 | .st_VSimple,(x:zA)=>[.int .u8 x.kind, .str x.name, .int .u8 x.op, .str x.value, .bool x.fold, .int .i64 x.anb.a, .int .i64 x.anb.b, .bool x.of_, .sl 146 x.list]
 | .st_VToken,(x:zq)=>[.int .u8 x.kind, .str x.text, .int .i64 x.num, .str x.unit, .bool x.flag]
 | .st_VValue,(x:ze)=>[.int .u8 x.token.kind, .str x.token.text, .int .i64 x.token.num, .str x.token.unit, .bool x.token.flag, .sl 132 x.list]
 | .st_Vcond_reader,(x:zm)=>[.sl 132 x.v]
 | .st_Vnest_found,(x:zP)=>[.int .i64 x.depth, .int .i64 x.tokens, .bool x.bad]
 | .st_Vruntime_boundsError,(x:ZM)=>[.int .i64 x.x, .int .i64 x.y, .bool x.signed, .int .u8 x.code]
 | .st_Vseltext_place,(x:zf)=>[.int .i64 x.deep, .bool x.has]
 | .st_Vseltext_reader,(x:zh)=>[.sl 132 x.v, .int .i64 x.at_]
 | .st_Vsheet_found,(x:zB)=>[.int .i64 x.rules, .int .i64 x.depth, .bool x.bad]
 | .st_Vsheet_parser,(x:zo)=>[.int .i64 x.room, .int .i64 x.constructs]
 | .st_Vtoken_scanner,(x:za)=>[.str x.s, .int .i64 x.at_]
 | .str,(x:Str)=>[.str x]
 | .other,_=>List.replicate n .nil
def Uu:EV Cn->Option Int
 | .int .i32 n=>some n
 |_=>none
def qF:EV Cn->Option Int
 | .int .i64 n=>some n
 |_=>none
def Tu:EV Cn->Option Int
 | .int .u32 n=>some n
 |_=>none
def Su:EV Cn->Option Int
 | .int .u64 n=>some n
 |_=>none
def Pe:EV Cn->Option Int
 | .int .u8 n=>some n
 |_=>none
def Xd:EV Cn->Option Bool
 | .bool b=>some b
 |_=>none
def dStr:EV Cn->Option Str
 | .str l=>some l
 |_=>none
def Ls:EV Cn->Option (List Int)
 | .nil=>some []
 | .sl 2 l=>some l
 |_=>none
def Tn:EV Cn->Option (List UInt8)
 | .nil=>some []
 | .sl 5 l=>some l
 |_=>none
def Js:EV Cn->Option (List Str)
 | .nil=>some []
 | .sl 9 l=>some l
 |_=>none
def Jt:EV Cn->Option (List (List ze))
 | .nil=>some []
 | .sl 31 l=>some l
 |_=>none
def Co:EV Cn->Option (List zV)
 | .nil=>some []
 | .sl 33 l=>some l
 |_=>none
def Oj:EV Cn->Option (List zt)
 | .nil=>some []
 | .sl 36 l=>some l
 |_=>none
def Nj:EV Cn->Option (List zL)
 | .nil=>some []
 | .sl 39 l=>some l
 |_=>none
def Bo:EV Cn->Option (List (List Str))
 | .nil=>some []
 | .sl 74 l=>some l
 |_=>none
def Yt:EV Cn->Option (List zq)
 | .nil=>some []
 | .sl 128 l=>some l
 |_=>none
def Nf:EV Cn->Option (List ze)
 | .nil=>some []
 | .sl 132 l=>some l
 |_=>none
def Yj:EV Cn->Option (List zw)
 | .nil=>some []
 | .sl 146 l=>some l
 |_=>none
def Vo:EV Cn->Option (List zy)
 | .nil=>some []
 | .sl 149 l=>some l
 |_=>none
def Uo:EV Cn->Option (List zA)
 | .nil=>some []
 | .sl 153 l=>some l
 |_=>none
def mC:(c:TC)->List (EV Cn)->Option (Ct c)
 | .bool=>fun cs=>match cs with|[a0]=>(Xd a0).bind fun x0=>some x0|_=>none
 | .int_i32=>fun cs=>match cs with|[a0]=>(Uu a0).bind fun x0=>some x0|_=>none
 | .int_i64=>fun cs=>match cs with|[a0]=>(qF a0).bind fun x0=>some x0|_=>none
 | .int_u32=>fun cs=>match cs with|[a0]=>(Tu a0).bind fun x0=>some x0|_=>none
 | .int_u64=>fun cs=>match cs with|[a0]=>(Su a0).bind fun x0=>some x0|_=>none
 | .int_u8=>fun cs=>match cs with|[a0]=>(Pe a0).bind Jc|_=>none
 | .sl_128=>fun cs=>match cs with|[a0]=>(Yt a0).bind fun x0=>some x0|_=>none
 | .sl_132=>fun cs=>match cs with|[a0]=>(Nf a0).bind fun x0=>some x0|_=>none
 | .sl_146=>fun cs=>match cs with|[a0]=>(Yj a0).bind fun x0=>some x0|_=>none
 | .sl_149=>fun cs=>match cs with|[a0]=>(Vo a0).bind fun x0=>some x0|_=>none
 | .sl_153=>fun cs=>match cs with|[a0]=>(Uo a0).bind fun x0=>some x0|_=>none
 | .sl_2=>fun cs=>match cs with|[a0]=>(Ls a0).bind fun x0=>some x0|_=>none
 | .sl_31=>fun cs=>match cs with|[a0]=>(Jt a0).bind fun x0=>some x0|_=>none
 | .sl_33=>fun cs=>match cs with|[a0]=>(Co a0).bind fun x0=>some x0|_=>none
 | .sl_36=>fun cs=>match cs with|[a0]=>(Oj a0).bind fun x0=>some x0|_=>none
 | .sl_39=>fun cs=>match cs with|[a0]=>(Nj a0).bind fun x0=>some x0|_=>none
 | .sl_5=>fun cs=>match cs with|[a0]=>(Tn a0).bind fun x0=>some x0|_=>none
 | .sl_74=>fun cs=>match cs with|[a0]=>(Bo a0).bind fun x0=>some x0|_=>none
 | .sl_9=>fun cs=>match cs with|[a0]=>(Js a0).bind fun x0=>some x0|_=>none
 | .st_VAnb=>fun cs=>match cs with|[a0,a1]=>(qF a0).bind fun x0=>(qF a1).bind fun x1=>some (⟨x0,x1⟩:VAnb)|_=>none
 | .st_VComplex=>fun cs=>match cs with|[a0,a1,a2]=>(Pe a0).bind fun x0=>(Vo a1).bind fun x1=>(Tn a2).bind fun x2=>some (⟨x0,x1,x2⟩:zw)|_=>none
 | .st_VCompound=>fun cs=>match cs with|[a0,a1]=>(dStr a0).bind fun x0=>(Uo a1).bind fun x1=>some (⟨x0,x1⟩:zy)|_=>none
 | .st_VCond=>fun cs=>match cs with|[a0,a1,a2,a3,a4,a5,a6]=>(Pe a0).bind fun x0=>(dStr a1).bind fun x1=>(qF a2).bind fun x2=>(dStr a3).bind fun x3=>(Nf a4).bind fun x4=>(Xd a5).bind fun x5=>(Oj a6).bind fun x6=>some (⟨x0,x1,x2,(⟨x3,x4,x5⟩:zV),x6⟩:zt)|_=>none
 | .st_VDecl=>fun cs=>match cs with|[a0,a1,a2]=>(dStr a0).bind fun x0=>(Nf a1).bind fun x1=>(Xd a2).bind fun x2=>some (⟨x0,x1,x2⟩:zV)|_=>none
 | .st_VRule=>fun cs=>match cs with|[a0,a1,a2,a3,a4,a5,a6,a7,a8,a9,a10,a11]=>(Pe a0).bind fun x0=>(Yj a1).bind fun x1=>(Co a2).bind fun x2=>(Pe a3).bind fun x3=>(dStr a4).bind fun x4=>(qF a5).bind fun x5=>(dStr a6).bind fun x6=>(Nf a7).bind fun x7=>(Xd a8).bind fun x8=>(Oj a9).bind fun x9=>(Bo a10).bind fun x10=>(Nj a11).bind fun x11=>some (⟨x0,x1,x2,(⟨x3,x4,x5,(⟨x6,x7,x8⟩:zV),x9⟩:zt),x10,x11⟩:zL)|_=>none
 | .st_VSheet=>fun cs=>match cs with|[a0]=>(Nj a0).bind fun x0=>some (⟨x0⟩:Qi)|_=>none
 | .st_VSimple=>fun cs=>match cs with|[a0,a1,a2,a3,a4,a5,a6,a7,a8]=>(Pe a0).bind fun x0=>(dStr a1).bind fun x1=>(Pe a2).bind fun x2=>(dStr a3).bind fun x3=>(Xd a4).bind fun x4=>(qF a5).bind fun x5=>(qF a6).bind fun x6=>(Xd a7).bind fun x7=>(Yj a8).bind fun x8=>some (⟨x0,x1,x2,x3,x4,(⟨x5,x6⟩:VAnb),x7,x8⟩:zA)|_=>none
 | .st_VToken=>fun cs=>match cs with|[a0,a1,a2,a3,a4]=>(Pe a0).bind fun x0=>(dStr a1).bind fun x1=>(qF a2).bind fun x2=>(dStr a3).bind fun x3=>(Xd a4).bind fun x4=>some (⟨x0,x1,x2,x3,x4⟩:zq)|_=>none
 | .st_VValue=>fun cs=>match cs with|[a0,a1,a2,a3,a4,a5]=>(Pe a0).bind fun x0=>(dStr a1).bind fun x1=>(qF a2).bind fun x2=>(dStr a3).bind fun x3=>(Xd a4).bind fun x4=>(Nf a5).bind fun x5=>some (⟨(⟨x0,x1,x2,x3,x4⟩:zq),x5⟩:ze)|_=>none
 | .st_Vcond_reader=>fun cs=>match cs with|[a0]=>(Nf a0).bind fun x0=>some (⟨x0⟩:zm)|_=>none
 | .st_Vnest_found=>fun cs=>match cs with|[a0,a1,a2]=>(qF a0).bind fun x0=>(qF a1).bind fun x1=>(Xd a2).bind fun x2=>some (⟨x0,x1,x2⟩:zP)|_=>none
 | .st_Vruntime_boundsError=>fun cs=>match cs with|[a0,a1,a2,a3]=>(qF a0).bind fun x0=>(qF a1).bind fun x1=>(Xd a2).bind fun x2=>(Pe a3).bind fun x3=>some (⟨x0,x1,x2,x3⟩:ZM)|_=>none
 | .st_Vseltext_place=>fun cs=>match cs with|[a0,a1]=>(qF a0).bind fun x0=>(Xd a1).bind fun x1=>some (⟨x0,x1⟩:zf)|_=>none
 | .st_Vseltext_reader=>fun cs=>match cs with|[a0,a1]=>(Nf a0).bind fun x0=>(qF a1).bind fun x1=>some (⟨x0,x1⟩:zh)|_=>none
 | .st_Vsheet_found=>fun cs=>match cs with|[a0,a1,a2]=>(qF a0).bind fun x0=>(qF a1).bind fun x1=>(Xd a2).bind fun x2=>some (⟨x0,x1,x2⟩:zB)|_=>none
 | .st_Vsheet_parser=>fun cs=>match cs with|[a0,a1]=>(qF a0).bind fun x0=>(qF a1).bind fun x1=>some (⟨x0,x1⟩:zo)|_=>none
 | .st_Vtoken_scanner=>fun cs=>match cs with|[a0,a1]=>(dStr a0).bind fun x0=>(qF a1).bind fun x1=>some (⟨x0,x1⟩:za)|_=>none
 | .str=>fun cs=>match cs with|[a0]=>(dStr a0).bind fun x0=>some x0|_=>none
 | .other=>fun _=>none
def bC:(c:TC)->Option ((List UInt8->List (Ct c))×(List (Ct c)->List UInt8))
 | .int_u8=>some (fun l=>l,fun l=>l)
 |_=>none
noncomputable def I:Ip:=⟨Cn,fun t=>dC (tc t),fun t=>eC (Tryz.prog.cellsOf t) (tc t),fun t=>mC (tc t),fun t=>fC (Tryz.prog.cellsOf t) (tc t),fun t=>bC (tc t)⟩
theorem DJ:(tab.all fun p=>Nat.beq (Tryz.prog.cellsOf p.1) (size p.2))=true:=by kernel_rfl
theorem oK(t:Nat)(h:tc t≠ .other):Tryz.prog.cellsOf t=size (tc t):=by
 unfold tc at h ⊢;cases hl:lk tab t with
 |none=>rw[hl]at h;exact absurd rfl h
 |some c=> simp only;exact Da (Xa.1 DJ _ (ic hl))
def Dec(a:EV Cn)(p:PV):Prop:=Cf (I:=I) a=true/\WkP (pvE I a) p
theorem decs{cs:List (EV Cn)}{ps:List PV}(h:All2 Dec cs ps):(∀v∈cs,Cf (I:=I) v=true)/\cs.length=ps.length/\ ∀(j:Nat) (a b:PV),(cs.map (pvE I))[j]? =some a->ps[j]? =some b->WkP a b:=by
 induction h with
 |nil=>exact⟨fun v hv=>(by cases hv),rfl,fun j a b ha=>(by cases ha)⟩
 |cons h1 _ ih=>
  refine⟨fun v hv=> ?_,congrArg Nat.succ ih.2.1,fun j a b ha hb=> ?_⟩
  ·rcases Oa.1 hv with rfl|hv
   ·exact h1.1
   ·exact ih.1 v hv
  ·cases j with
   |zero=>injection ha with ha;injection hb with hb;rw[<-ha,<-hb];exact h1.2
   |succ j=>exact ih.2.2 j a b ha hb
theorem mM{a:EV Cn}{x:Int}(h:Uu a=some x):Dec a (.at (.int .i32 x)):=by
 unfold Uu at h;split at h
 ·cases h;exact⟨rfl, .refl _⟩
 ·cases h
theorem Zp{a:EV Cn}{x:Int}(h:qF a=some x):Dec a (.at (.int .i64 x)):=by
 unfold qF at h;split at h
 ·cases h;exact⟨rfl, .refl _⟩
 ·cases h
theorem lM{a:EV Cn}{x:Int}(h:Tu a=some x):Dec a (.at (.int .u32 x)):=by
 unfold Tu at h;split at h
 ·cases h;exact⟨rfl, .refl _⟩
 ·cases h
theorem kM{a:EV Cn}{x:Int}(h:Su a=some x):Dec a (.at (.int .u64 x)):=by
 unfold Su at h;split at h
 ·cases h;exact⟨rfl, .refl _⟩
 ·cases h
theorem ve{a:EV Cn}{x:Int}(h:Pe a=some x):Dec a (.at (.int .u8 x)):=by
 unfold Pe at h;split at h
 ·cases h;exact⟨rfl, .refl _⟩
 ·cases h
theorem Re{a:EV Cn}{x:Bool}(h:Xd a=some x):Dec a (.at (.bool x)):=by
 unfold Xd at h;split at h
 ·cases h;exact⟨rfl, .refl _⟩
 ·cases h
theorem Yd{a:EV Cn}{x:Str}(h:dStr a=some x):Dec a (.str x):=by
 unfold dStr at h;split at h
 ·cases h;exact⟨rfl, .refl _⟩
 ·cases h
theorem mK{a:EV Cn}{x:List Int}(h:Ls a=some x):Dec a (.sl (x.map (I.full 2))):=by
 unfold Ls at h;split at h
 ·cases h;exact⟨rfl, .nil⟩
 ·cases h;exact⟨rfl, .refl _⟩
 ·cases h
theorem YC{a:EV Cn}{x:List UInt8}(h:Tn a=some x):Dec a (.sl (x.map (I.full 5))):=by
 unfold Tn at h;split at h
 ·cases h;exact⟨rfl, .nil⟩
 ·cases h;exact⟨rfl, .refl _⟩
 ·cases h
theorem lK{a:EV Cn}{x:List Str}(h:Js a=some x):Dec a (.sl (x.map (I.full 9))):=by
 unfold Js at h;split at h
 ·cases h;exact⟨rfl, .nil⟩
 ·cases h;exact⟨rfl, .refl _⟩
 ·cases h
theorem KL{a:EV Cn}{x:List (List ze)}(h:Jt a=some x):Dec a (.sl (x.map (I.full 31))):=by
 unfold Jt at h;split at h
 ·cases h;exact⟨rfl, .nil⟩
 ·cases h;exact⟨rfl, .refl _⟩
 ·cases h
theorem yC{a:EV Cn}{x:List zV}(h:Co a=some x):Dec a (.sl (x.map (I.full 33))):=by
 unfold Co at h;split at h
 ·cases h;exact⟨rfl, .nil⟩
 ·cases h;exact⟨rfl, .refl _⟩
 ·cases h
theorem Mv{a:EV Cn}{x:List zt}(h:Oj a=some x):Dec a (.sl (x.map (I.full 36))):=by
 unfold Oj at h;split at h
 ·cases h;exact⟨rfl, .nil⟩
 ·cases h;exact⟨rfl, .refl _⟩
 ·cases h
theorem Kv{a:EV Cn}{x:List zL}(h:Nj a=some x):Dec a (.sl (x.map (I.full 39))):=by
 unfold Nj at h;split at h
 ·cases h;exact⟨rfl, .nil⟩
 ·cases h;exact⟨rfl, .refl _⟩
 ·cases h
theorem xC{a:EV Cn}{x:List (List Str)}(h:Bo a=some x):Dec a (.sl (x.map (I.full 74))):=by
 unfold Bo at h;split at h
 ·cases h;exact⟨rfl, .nil⟩
 ·cases h;exact⟨rfl, .refl _⟩
 ·cases h
theorem YM{a:EV Cn}{x:List zq}(h:Yt a=some x):Dec a (.sl (x.map (I.full 128))):=by
 unfold Yt at h;split at h
 ·cases h;exact⟨rfl, .nil⟩
 ·cases h;exact⟨rfl, .refl _⟩
 ·cases h
theorem vg{a:EV Cn}{x:List ze}(h:Nf a=some x):Dec a (.sl (x.map (I.full 132))):=by
 unfold Nf at h;split at h
 ·cases h;exact⟨rfl, .nil⟩
 ·cases h;exact⟨rfl, .refl _⟩
 ·cases h
theorem Yv{a:EV Cn}{x:List zw}(h:Yj a=some x):Dec a (.sl (x.map (I.full 146))):=by
 unfold Yj at h;split at h
 ·cases h;exact⟨rfl, .nil⟩
 ·cases h;exact⟨rfl, .refl _⟩
 ·cases h
theorem lD{a:EV Cn}{x:List zy}(h:Vo a=some x):Dec a (.sl (x.map (I.full 149))):=by
 unfold Vo at h;split at h
 ·cases h;exact⟨rfl, .nil⟩
 ·cases h;exact⟨rfl, .refl _⟩
 ·cases h
theorem kD{a:EV Cn}{x:List zA}(h:Uo a=some x):Dec a (.sl (x.map (I.full 153))):=by
 unfold Uo at h;split at h
 ·cases h;exact⟨rfl, .nil⟩
 ·cases h;exact⟨rfl, .refl _⟩
 ·cases h
theorem bJ(n:Nat): ∀(c:TC) (cs:List (EV Cn)) (x:Ct c),mC c cs=some x->All2 Dec cs (fC n c x)
 | .bool,cs,x,h=>by
  simp only[mC]at h;split at h
  ·obtain⟨x0,h0,h⟩:=Aa.1 h;injection h with h;subst h;exact .cons (Re h0) .nil
  ·cases h
 | .int_i32,cs,x,h=>by
  simp only[mC]at h;split at h
  ·obtain⟨x0,h0,h⟩:=Aa.1 h;injection h with h;subst h;exact .cons (mM h0) .nil
  ·cases h
 | .int_i64,cs,x,h=>by
  simp only[mC]at h;split at h
  ·obtain⟨x0,h0,h⟩:=Aa.1 h;injection h with h;subst h;exact .cons (Zp h0) .nil
  ·cases h
 | .int_u32,cs,x,h=>by
  simp only[mC]at h;split at h
  ·obtain⟨x0,h0,h⟩:=Aa.1 h;injection h with h;subst h;exact .cons (lM h0) .nil
  ·cases h
 | .int_u64,cs,x,h=>by
  simp only[mC]at h;split at h
  ·obtain⟨x0,h0,h⟩:=Aa.1 h;injection h with h;subst h;exact .cons (kM h0) .nil
  ·cases h
 | .int_u8,cs,x,h=>by
  simp only[mC]at h;split at h
  ·obtain⟨x0,h0,h⟩:=Aa.1 h;have:=XL h;subst this;exact .cons (ve h0) .nil
  ·cases h
 | .sl_128,cs,x,h=>by
  simp only[mC]at h;split at h
  ·obtain⟨x0,h0,h⟩:=Aa.1 h;injection h with h;subst h;exact .cons (YM h0) .nil
  ·cases h
 | .sl_132,cs,x,h=>by
  simp only[mC]at h;split at h
  ·obtain⟨x0,h0,h⟩:=Aa.1 h;injection h with h;subst h;exact .cons (vg h0) .nil
  ·cases h
 | .sl_146,cs,x,h=>by
  simp only[mC]at h;split at h
  ·obtain⟨x0,h0,h⟩:=Aa.1 h;injection h with h;subst h;exact .cons (Yv h0) .nil
  ·cases h
 | .sl_149,cs,x,h=>by
  simp only[mC]at h;split at h
  ·obtain⟨x0,h0,h⟩:=Aa.1 h;injection h with h;subst h;exact .cons (lD h0) .nil
  ·cases h
 | .sl_153,cs,x,h=>by
  simp only[mC]at h;split at h
  ·obtain⟨x0,h0,h⟩:=Aa.1 h;injection h with h;subst h;exact .cons (kD h0) .nil
  ·cases h
 | .sl_2,cs,x,h=>by
  simp only[mC]at h;split at h
  ·obtain⟨x0,h0,h⟩:=Aa.1 h;injection h with h;subst h;exact .cons (mK h0) .nil
  ·cases h
 | .sl_31,cs,x,h=>by
  simp only[mC]at h;split at h
  ·obtain⟨x0,h0,h⟩:=Aa.1 h;injection h with h;subst h;exact .cons (KL h0) .nil
  ·cases h
 | .sl_33,cs,x,h=>by
  simp only[mC]at h;split at h
  ·obtain⟨x0,h0,h⟩:=Aa.1 h;injection h with h;subst h;exact .cons (yC h0) .nil
  ·cases h
 | .sl_36,cs,x,h=>by
  simp only[mC]at h;split at h
  ·obtain⟨x0,h0,h⟩:=Aa.1 h;injection h with h;subst h;exact .cons (Mv h0) .nil
  ·cases h
 | .sl_39,cs,x,h=>by
  simp only[mC]at h;split at h
  ·obtain⟨x0,h0,h⟩:=Aa.1 h;injection h with h;subst h;exact .cons (Kv h0) .nil
  ·cases h
 | .sl_5,cs,x,h=>by
  simp only[mC]at h;split at h
  ·obtain⟨x0,h0,h⟩:=Aa.1 h;injection h with h;subst h;exact .cons (YC h0) .nil
  ·cases h
 | .sl_74,cs,x,h=>by
  simp only[mC]at h;split at h
  ·obtain⟨x0,h0,h⟩:=Aa.1 h;injection h with h;subst h;exact .cons (xC h0) .nil
  ·cases h
 | .sl_9,cs,x,h=>by
  simp only[mC]at h;split at h
  ·obtain⟨x0,h0,h⟩:=Aa.1 h;injection h with h;subst h;exact .cons (lK h0) .nil
  ·cases h
 | .st_VAnb,cs,x,h=>by
  simp only[mC]at h;split at h
  ·obtain⟨x0,h0,h⟩:=Aa.1 h;obtain⟨x1,h1,h⟩:=Aa.1 h;injection h with h;subst h;exact .cons (Zp h0) (.cons (Zp h1) .nil)
  ·cases h
 | .st_VComplex,cs,x,h=>by
  simp only[mC]at h;split at h
  ·obtain⟨x0,h0,h⟩:=Aa.1 h;obtain⟨x1,h1,h⟩:=Aa.1 h;obtain⟨x2,h2,h⟩:=Aa.1 h;injection h with h;subst h;show All2 Dec _ (Q9 _);simp only[Q9,Qp,qM,QG];exact .cons (ve h0) (.cons (lD h1) (.cons (YC h2) .nil))
  ·cases h
 | .st_VCompound,cs,x,h=>by
  simp only[mC]at h;split at h
  ·obtain⟨x0,h0,h⟩:=Aa.1 h;obtain⟨x1,h1,h⟩:=Aa.1 h;injection h with h;subst h;show All2 Dec _ (Jg _);simp only[Jg,Qp,qM,QG];exact .cons (Yd h0) (.cons (kD h1) .nil)
  ·cases h
 | .st_VCond,cs,x,h=>by
  simp only[mC]at h;split at h
  ·obtain⟨x0,h0,h⟩:=Aa.1 h;obtain⟨x1,h1,h⟩:=Aa.1 h;obtain⟨x2,h2,h⟩:=Aa.1 h;obtain⟨x3,h3,h⟩:=Aa.1 h;obtain⟨x4,h4,h⟩:=Aa.1 h;obtain⟨x5,h5,h⟩:=Aa.1 h;obtain⟨x6,h6,h⟩:=Aa.1 h;injection h with h;subst h;show All2 Dec _ (Tf _);simp only[Tf,Lx];exact .cons (ve h0) (.cons (Yd h1) (.cons (Zp h2) (.cons (Yd h3) (.cons (vg h4) (.cons (Re h5) (.cons (Mv h6) .nil))))))
  ·cases h
 | .st_VDecl,cs,x,h=>by
  simp only[mC]at h;split at h
  ·obtain⟨x0,h0,h⟩:=Aa.1 h;obtain⟨x1,h1,h⟩:=Aa.1 h;obtain⟨x2,h2,h⟩:=Aa.1 h;injection h with h;subst h;exact .cons (Yd h0) (.cons (vg h1) (.cons (Re h2) .nil))
  ·cases h
 | .st_VRule,cs,x,h=>by
  simp only[mC]at h;split at h
  ·obtain⟨x0,h0,h⟩:=Aa.1 h;obtain⟨x1,h1,h⟩:=Aa.1 h;obtain⟨x2,h2,h⟩:=Aa.1 h;obtain⟨x3,h3,h⟩:=Aa.1 h;obtain⟨x4,h4,h⟩:=Aa.1 h;obtain⟨x5,h5,h⟩:=Aa.1 h;obtain⟨x6,h6,h⟩:=Aa.1 h;obtain⟨x7,h7,h⟩:=Aa.1 h;obtain⟨x8,h8,h⟩:=Aa.1 h;obtain⟨x9,h9,h⟩:=Aa.1 h;obtain⟨x10,h10,h⟩:=Aa.1 h;obtain⟨x11,h11,h⟩:=Aa.1 h;injection h with h;subst h;show All2 Dec _ (Rf _);simp only[Rf,Gx];exact .cons (ve h0) (.cons (Yv h1) (.cons (yC h2) (.cons (ve h3) (.cons (Yd h4) (.cons (Zp h5) (.cons (Yd h6) (.cons (vg h7) (.cons (Re h8) (.cons (Mv h9) (.cons (xC h10) (.cons (Kv h11) .nil)))))))))))
  ·cases h
 | .st_VSheet,cs,x,h=>by
  simp only[mC]at h;split at h
  ·obtain⟨x0,h0,h⟩:=Aa.1 h;injection h with h;subst h;exact .cons (Kv h0) .nil
  ·cases h
 | .st_VSimple,cs,x,h=>by
  simp only[mC]at h;split at h
  ·obtain⟨x0,h0,h⟩:=Aa.1 h;obtain⟨x1,h1,h⟩:=Aa.1 h;obtain⟨x2,h2,h⟩:=Aa.1 h;obtain⟨x3,h3,h⟩:=Aa.1 h;obtain⟨x4,h4,h⟩:=Aa.1 h;obtain⟨x5,h5,h⟩:=Aa.1 h;obtain⟨x6,h6,h⟩:=Aa.1 h;obtain⟨x7,h7,h⟩:=Aa.1 h;obtain⟨x8,h8,h⟩:=Aa.1 h;injection h with h;subst h;show All2 Dec _ (Hg _);simp only[Hg,Qp,qM,QG];exact .cons (ve h0) (.cons (Yd h1) (.cons (ve h2) (.cons (Yd h3) (.cons (Re h4) (.cons (Zp h5) (.cons (Zp h6) (.cons (Re h7) (.cons (Yv h8) .nil))))))))
  ·cases h
 | .st_VToken,cs,x,h=>by
  simp only[mC]at h;split at h
  ·obtain⟨x0,h0,h⟩:=Aa.1 h;obtain⟨x1,h1,h⟩:=Aa.1 h;obtain⟨x2,h2,h⟩:=Aa.1 h;obtain⟨x3,h3,h⟩:=Aa.1 h;obtain⟨x4,h4,h⟩:=Aa.1 h;injection h with h;subst h;exact .cons (ve h0) (.cons (Yd h1) (.cons (Zp h2) (.cons (Yd h3) (.cons (Re h4) .nil))))
  ·cases h
 | .st_VValue,cs,x,h=>by
  simp only[mC]at h;split at h
  ·obtain⟨x0,h0,h⟩:=Aa.1 h;obtain⟨x1,h1,h⟩:=Aa.1 h;obtain⟨x2,h2,h⟩:=Aa.1 h;obtain⟨x3,h3,h⟩:=Aa.1 h;obtain⟨x4,h4,h⟩:=Aa.1 h;obtain⟨x5,h5,h⟩:=Aa.1 h;injection h with h;subst h;show All2 Dec _ (Qm _);simp only[Qm,Fy];exact .cons (ve h0) (.cons (Yd h1) (.cons (Zp h2) (.cons (Yd h3) (.cons (Re h4) (.cons (vg h5) .nil)))))
  ·cases h
 | .st_Vcond_reader,cs,x,h=>by
  simp only[mC]at h;split at h
  ·obtain⟨x0,h0,h⟩:=Aa.1 h;injection h with h;subst h;exact .cons (vg h0) .nil
  ·cases h
 | .st_Vnest_found,cs,x,h=>by
  simp only[mC]at h;split at h
  ·obtain⟨x0,h0,h⟩:=Aa.1 h;obtain⟨x1,h1,h⟩:=Aa.1 h;obtain⟨x2,h2,h⟩:=Aa.1 h;injection h with h;subst h;exact .cons (Zp h0) (.cons (Zp h1) (.cons (Re h2) .nil))
  ·cases h
 | .st_Vruntime_boundsError,cs,x,h=>by
  simp only[mC]at h;split at h
  ·obtain⟨x0,h0,h⟩:=Aa.1 h;obtain⟨x1,h1,h⟩:=Aa.1 h;obtain⟨x2,h2,h⟩:=Aa.1 h;obtain⟨x3,h3,h⟩:=Aa.1 h;injection h with h;subst h;exact .cons (Zp h0) (.cons (Zp h1) (.cons (Re h2) (.cons (ve h3) .nil)))
  ·cases h
 | .st_Vseltext_place,cs,x,h=>by
  simp only[mC]at h;split at h
  ·obtain⟨x0,h0,h⟩:=Aa.1 h;obtain⟨x1,h1,h⟩:=Aa.1 h;injection h with h;subst h;exact .cons (Zp h0) (.cons (Re h1) .nil)
  ·cases h
 | .st_Vseltext_reader,cs,x,h=>by
  simp only[mC]at h;split at h
  ·obtain⟨x0,h0,h⟩:=Aa.1 h;obtain⟨x1,h1,h⟩:=Aa.1 h;injection h with h;subst h;exact .cons (vg h0) (.cons (Zp h1) .nil)
  ·cases h
 | .st_Vsheet_found,cs,x,h=>by
  simp only[mC]at h;split at h
  ·obtain⟨x0,h0,h⟩:=Aa.1 h;obtain⟨x1,h1,h⟩:=Aa.1 h;obtain⟨x2,h2,h⟩:=Aa.1 h;injection h with h;subst h;exact .cons (Zp h0) (.cons (Zp h1) (.cons (Re h2) .nil))
  ·cases h
 | .st_Vsheet_parser,cs,x,h=>by
  simp only[mC]at h;split at h
  ·obtain⟨x0,h0,h⟩:=Aa.1 h;obtain⟨x1,h1,h⟩:=Aa.1 h;injection h with h;subst h;exact .cons (Zp h0) (.cons (Zp h1) .nil)
  ·cases h
 | .st_Vtoken_scanner,cs,x,h=>by
  simp only[mC]at h;split at h
  ·obtain⟨x0,h0,h⟩:=Aa.1 h;obtain⟨x1,h1,h⟩:=Aa.1 h;injection h with h;subst h;exact .cons (Yd h0) (.cons (Zp h1) .nil)
  ·cases h
 | .str,cs,x,h=>by
  simp only[mC]at h;split at h
  ·obtain⟨x0,h0,h⟩:=Aa.1 h;injection h with h;subst h;exact .cons (Yd h0) .nil
  ·cases h
 | .other,cs,x,h=>by cases h
theorem fe(n:Nat): ∀(c:TC) (x:Ct c),fC n c x=(eC n c x).map (pvE I)
 | .bool,x=>rfl
 | .int_i32,x=>rfl
 | .int_i64,x=>rfl
 | .int_u32,x=>rfl
 | .int_u64,x=>rfl
 | .int_u8,x=>rfl
 | .sl_128,x=>rfl
 | .sl_132,x=>rfl
 | .sl_146,x=>rfl
 | .sl_149,x=>rfl
 | .sl_153,x=>rfl
 | .sl_2,x=>rfl
 | .sl_31,x=>rfl
 | .sl_33,x=>rfl
 | .sl_36,x=>rfl
 | .sl_39,x=>rfl
 | .sl_5,x=>rfl
 | .sl_74,x=>rfl
 | .sl_9,x=>rfl
 | .st_VAnb,x=>rfl
 | .st_VComplex,(x:zw)=>by obtain⟨x_lead,x_parts,x_combs⟩:=x;show Q9 _=_;simp only[Q9,Qp,qM,QG];rfl
 | .st_VCompound,(x:zy)=>by obtain⟨x_tag,x_simples⟩:=x;show Jg _=_;simp only[Jg,Qp,qM,QG];rfl
 | .st_VCond,(x:zt)=>by obtain⟨x_kind,x_name,x_num,x_decl,x_list⟩:=x;show Tf _=_;simp only[Tf,Lx];rfl
 | .st_VDecl,x=>rfl
 | .st_VRule,(x:zL)=>by obtain⟨x_kind,x_selectors,x_decls,x_cond,x_names,x_rules⟩:=x;show Rf _=_;simp only[Rf,Gx];rfl
 | .st_VSheet,x=>rfl
 | .st_VSimple,(x:zA)=>by obtain⟨x_kind,x_name,x_op,x_value,x_fold,x_anb,x_of_,x_list⟩:=x;show Hg _=_;simp only[Hg,Qp,qM,QG];rfl
 | .st_VToken,x=>rfl
 | .st_VValue,(x:ze)=>by obtain⟨x_token,x_list⟩:=x;show Qm _=_;simp only[Qm,Fy];rfl
 | .st_Vcond_reader,x=>rfl
 | .st_Vnest_found,x=>rfl
 | .st_Vruntime_boundsError,x=>rfl
 | .st_Vseltext_place,x=>rfl
 | .st_Vseltext_reader,x=>rfl
 | .st_Vsheet_found,x=>rfl
 | .st_Vsheet_parser,x=>rfl
 | .st_Vtoken_scanner,x=>rfl
 | .str,x=>rfl
 | .other,x=>by show List.replicate n (PV.at (Value.slice none 0 0))=(List.replicate n EV.nil).map (pvE I);rw[List.map_replicate];rfl
theorem nI(n:Nat)(c:TC)(x:Ct c)(h:c≠ .other->n=size c):(eC n c x).length=n:=by
 cases c
 case other=>simp[eC]
 all_goals (rw[h (by simp)];rfl)
theorem nJ(n:Nat): ∀(c:TC) (x:Ct c),(eC n c x).all (Cf (I:=I))=true
 | .bool,x=>rfl
 | .int_i32,x=>rfl
 | .int_i64,x=>rfl
 | .int_u32,x=>rfl
 | .int_u64,x=>rfl
 | .int_u8,x=>rfl
 | .sl_128,x=>rfl
 | .sl_132,x=>rfl
 | .sl_146,x=>rfl
 | .sl_149,x=>rfl
 | .sl_153,x=>rfl
 | .sl_2,x=>rfl
 | .sl_31,x=>rfl
 | .sl_33,x=>rfl
 | .sl_36,x=>rfl
 | .sl_39,x=>rfl
 | .sl_5,x=>rfl
 | .sl_74,x=>rfl
 | .sl_9,x=>rfl
 | .st_VAnb,x=>rfl
 | .st_VComplex,x=>rfl
 | .st_VCompound,x=>rfl
 | .st_VCond,x=>rfl
 | .st_VDecl,x=>rfl
 | .st_VRule,x=>rfl
 | .st_VSheet,x=>rfl
 | .st_VSimple,x=>rfl
 | .st_VToken,x=>rfl
 | .st_VValue,x=>rfl
 | .st_Vcond_reader,x=>rfl
 | .st_Vnest_found,x=>rfl
 | .st_Vruntime_boundsError,x=>rfl
 | .st_Vseltext_place,x=>rfl
 | .st_Vseltext_reader,x=>rfl
 | .st_Vsheet_found,x=>rfl
 | .st_Vsheet_parser,x=>rfl
 | .st_Vtoken_scanner,x=>rfl
 | .str,x=>rfl
 | .other,x=>by show(List.replicate n EV.nil).all (Cf (I:=I))=true;rw[Xa];intro v hv;rw[(List.mem_replicate.1 hv).2];rfl
theorem CJ:(tab.all fun p=>match p.2 with| .int_u8=>(match kdOf Tryz.prog p.1 with| .int .u8=>true|_=>false)|_=>true)=true:=by kernel_rfl
theorem yI(t:Nat)(h:tc t= .int_u8):kdOf Tryz.prog t= .int .u8:=by
 unfold tc at h;cases hl:lk tab t with
 |none=>rw[hl]at h;cases h
 |some c=>
  rw[hl]at h;have h:c= .int_u8:=h;subst h;have:=Xa.1 CJ _ (ic hl);simp only at this;split at this
  ·assumption
  ·cases this
theorem NJ(n:Nat): ∀(c:TC) (p:(List UInt8->List (Ct c))×(List (Ct c)->List UInt8)),bC c=some p->(∀l,(p.1 l).map (fC n c)=l.map fun b=>[PV.at (.int .u8 b.toNat)])/\(∀l,l.map (fC n c)=(p.2 l).map fun b=>[PV.at (.int .u8 b.toNat)])/\c= .int_u8:=by
 intro c p h;cases c
 case int_u8=>cases h;exact⟨fun l=>rfl,fun l=>rfl,rfl⟩
 all_goals cases h
theorem oI(t:Nat)(p:(List UInt8->List (I.C t))×(List (I.C t)->List UInt8))(h:I.byt t=some p):(∀l,(p.1 l).map (I.full t)=l.map fun b=>[PV.at (.int .u8 b.toNat)])/\(∀l,l.map (I.full t)=(p.2 l).map fun b=>[PV.at (.int .u8 b.toNat)])/\kdOf Tryz.prog t= .int .u8:=by obtain⟨h1,h2,h3⟩:=NJ (Tryz.prog.cellsOf t) (tc t) p h;exact⟨h1,h2,yI t h3⟩
theorem ipOK:IpOK Tryz.prog I where
 len:=fun t x=>by show(fC _ _ x).length=_;exact(congrArg List.length (fe _ (tc t) x)).trans ((Ja ..).trans (nI _ (tc t) x (oK t)))
 exp:=fun t x=>fe _ _ x
 pur:=fun t x v hv=>Xa.1 (nJ _ _ x) v hv
 made:=fun t cs x h=>decs (bJ _ _ cs x h)
 byt:=oI
noncomputable def T:TT:=[(2,ti Tryz.prog 2),(3,ti Tryz.prog 3),(4,ti Tryz.prog 4),(5,ti Tryz.prog 5),(6,ti Tryz.prog 6),(7,ti Tryz.prog 7),(9,ti Tryz.prog 9),(11,ti Tryz.prog 11),(21,ti Tryz.prog 21),(23,ti Tryz.prog 23),(25,ti Tryz.prog 25),(26,ti Tryz.prog 26),(29,ti Tryz.prog 29),(30,ti Tryz.prog 30),(31,ti Tryz.prog 31),(33,ti Tryz.prog 33),(34,ti Tryz.prog 34),(36,ti Tryz.prog 36),(37,ti Tryz.prog 37),(39,ti Tryz.prog 39),(42,ti Tryz.prog 42),(65,ti Tryz.prog 65),(69,ti Tryz.prog 69),(72,ti Tryz.prog 72),(74,ti Tryz.prog 74),(91,ti Tryz.prog 91),(128,ti Tryz.prog 128),(130,ti Tryz.prog 130),(132,ti Tryz.prog 132),(138,ti Tryz.prog 138),(144,ti Tryz.prog 144),(146,ti Tryz.prog 146),(147,ti Tryz.prog 147),(149,ti Tryz.prog 149),(151,ti Tryz.prog 151),(153,ti Tryz.prog 153),(157,ti Tryz.prog 157),(161,ti Tryz.prog 161),(173,ti Tryz.prog 173),(197,ti Tryz.prog 197),(199,ti Tryz.prog 199),(249,ti Tryz.prog 249),(251,ti Tryz.prog 251),(281,ti Tryz.prog 281),(300,ti Tryz.prog 300),(325,ti Tryz.prog 325),(334,ti Tryz.prog 334),(366,ti Tryz.prog 366),(368,ti Tryz.prog 368)]
def FK:List (Nat×List Kd):=[(151,[.int .i64, .int .i64])]
theorem tok:TOK Tryz.prog T FK:=Ms (l:=[2,3,4,5,6,7,9,11,21,23,25,26,29,30,31,33,34,36,37,39,42,65,69,72,74,91,128,130,132,138,144,146,147,149,151,153,157,161,173,197,199,249,251,281,300,325,334,366,368]) (by
 intro p hp;simp only[FK,Oa,List.not_mem_nil,or_false]at hp;rcases hp with rfl<;>kernel_rfl)
theorem mixed:Tryz.prog.follows .mixedOrders=true:=by kernel_rfl
noncomputable def body(f:Go.Func):Code:=match f.body with|some c=>c|none=> .skip
noncomputable def rsl(f:Go.Func):List ResultVar:=f.results.toList
end Go.Lv.VT
