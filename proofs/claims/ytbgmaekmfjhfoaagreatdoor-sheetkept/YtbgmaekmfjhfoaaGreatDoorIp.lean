/- What stands for the values of types. -/
import Derived.Test.YtbgmaekmfjhfoaaGreatDoorProg
import Derived.Test.YtbgmaekmfjhfoaaGreatDoorLf
import Derived.Test.YtbgmaekmfjhfoaaGreatDoorTy
import Derived.KernelRfl
set_option linter.unusedSimpArgs false
set_option linter.unusedVariables false
namespace Go.Lv.VT
set_option maxRecDepth 100000
open Go.Proofs
inductive TC where
 |bool|int_i32|int_i64|int_u32|int_u64|int_u8|sl_115|sl_138|sl_190|sl_2|sl_37|sl_39|sl_42|sl_45|sl_46|sl_5|sl_57|sl_59|sl_61|sl_9|st_VAnb|st_VArr2_i64|st_VComplex|st_VCompound|st_VCond|st_VDecl|st_VRule|st_VSheet|st_VSimple|st_VToken|st_VValue|st_Vanb_reader|st_Vcond_reader|st_Vnest_found|st_Vref08_base|st_Vruntime_boundsError|st_Vseltext_place|st_Vseltext_reader|st_Vsheet_found|st_Vsheet_parser|st_Vtoken_scanner|str|other
def Ct:TC->Type
 | .bool=>Bool| .int_i32=>Int| .int_i64=>Int| .int_u32=>Int| .int_u64=>Int| .int_u8=>UInt8| .sl_115=>List zu| .sl_138=>List zU| .sl_190=>List zH| .sl_2=>List Int| .sl_37=>List (List za)| .sl_39=>List Zm| .sl_42=>List zt| .sl_45=>List zJ| .sl_46=>List (List Str)| .sl_5=>List UInt8| .sl_57=>List ZG| .sl_59=>List zk| .sl_61=>List za| .sl_9=>List Str| .st_VAnb=>VAnb| .st_VArr2_i64=>ZG| .st_VComplex=>zu| .st_VCompound=>zU| .st_VCond=>zt| .st_VDecl=>Zm| .st_VRule=>zJ| .st_VSheet=>zdy| .st_VSimple=>zH| .st_VToken=>zk| .st_VValue=>za| .st_Vanb_reader=>zN| .st_Vcond_reader=>zh| .st_Vnest_found=>ZA| .st_Vref08_base=>zaa| .st_Vruntime_boundsError=>Z7| .st_Vseltext_place=>zg| .st_Vseltext_reader=>zq| .st_Vsheet_found=>Zg| .st_Vsheet_parser=>zo| .st_Vtoken_scanner=>zb| .str=>Str| .other=>Unit
def tab:List (Nat×TC):=[(2, .int_i64),(3, .int_i64),(4, .bool),(5, .int_u8),(6, .int_u8),(7, .st_Vruntime_boundsError),(9, .str),(11, .str),(21, .int_i32),(25, .sl_45),(27, .st_VSheet),(28, .int_i64),(35, .sl_115),(36, .sl_39),(37, .sl_61),(39, .st_VDecl),(40, .sl_42),(42, .st_VCond),(43, .sl_46),(45, .st_VRule),(46, .sl_9),(49, .sl_59),(52, .sl_57),(57, .st_VArr2_i64),(59, .st_VToken),(61, .st_VValue),(67, .sl_5),(74, .sl_37),(77, .st_Vsheet_parser),(88, .int_u32),(104, .st_Vtoken_scanner),(113, .sl_138),(115, .st_VComplex),(118, .st_Vsheet_found),(136, .sl_190),(138, .st_VCompound),(180, .st_Vcond_reader),(185, .st_VAnb),(187, .st_Vref08_base),(190, .st_VSimple),(197, .st_Vseltext_place),(200, .st_Vnest_found),(224, .int_u64),(288, .st_Vseltext_reader),(305, .sl_2),(316, .st_Vanb_reader)]
def tc(t:Nat):TC:=match lk tab t with|some c=>c|none=> .other
def Cn(t:Nat):Type:=Ct (tc t)
def dC:(c:TC)->Ct c
 | .bool=>(default:Bool)| .int_i32=>(default:Int)| .int_i64=>(default:Int)| .int_u32=>(default:Int)| .int_u64=>(default:Int)| .int_u8=>(default:UInt8)| .sl_115=>(default:List zu)| .sl_138=>(default:List zU)| .sl_190=>(default:List zH)| .sl_2=>(default:List Int)| .sl_37=>(default:List (List za))| .sl_39=>(default:List Zm)| .sl_42=>(default:List zt)| .sl_45=>(default:List zJ)| .sl_46=>(default:List (List Str))| .sl_5=>(default:List UInt8)| .sl_57=>(default:List ZG)| .sl_59=>(default:List zk)| .sl_61=>(default:List za)| .sl_9=>(default:List Str)| .st_VAnb=>(default:VAnb)| .st_VArr2_i64=>(default:ZG)| .st_VComplex=>(default:zu)| .st_VCompound=>(default:zU)| .st_VCond=>(default:zt)| .st_VDecl=>(default:Zm)| .st_VRule=>(default:zJ)| .st_VSheet=>(default:zdy)| .st_VSimple=>(default:zH)| .st_VToken=>(default:zk)| .st_VValue=>(default:za)| .st_Vanb_reader=>(default:zN)| .st_Vcond_reader=>(default:zh)| .st_Vnest_found=>(default:ZA)| .st_Vref08_base=>(default:zaa)| .st_Vruntime_boundsError=>(default:Z7)| .st_Vseltext_place=>(default:zg)| .st_Vseltext_reader=>(default:zq)| .st_Vsheet_found=>(default:Zg)| .st_Vsheet_parser=>(default:zo)| .st_Vtoken_scanner=>(default:zb)| .str=>(default:Str)| .other=>()
def size:TC->Nat
 | .st_VAnb=>2| .st_VArr2_i64=>2| .st_VComplex=>3| .st_VCompound=>2| .st_VCond=>7| .st_VDecl=>3| .st_VRule=>12| .st_VSimple=>9| .st_VToken=>5| .st_VValue=>6| .st_Vnest_found=>3| .st_Vref08_base=>8| .st_Vruntime_boundsError=>4| .st_Vseltext_place=>2| .st_Vseltext_reader=>2| .st_Vsheet_found=>3| .st_Vsheet_parser=>2| .st_Vtoken_scanner=>2|_=>1
def zBE(x:VAnb):List PV:=[.at (.int .i64 x.a), .at (.int .i64 x.b)]
def oP(x:ZG):List PV:=[.at (.int .i64 x.e0), .at (.int .i64 x.e1)]
mutual
def zA:zu->List PV
 |⟨x_lead,x_parts,x_combs⟩=>[.at (.int .u8 x_lead), .sl (iw x_parts), .sl (x_combs.map (fun y=>[.at (.int .u8 y.toNat)]))]
def Xw:List zu->List (List PV)
 |[]=>[]
 |v::r=>zA v::Xw r
def Zd:zU->List PV
 |⟨x_tag,x_simples⟩=>[.str x_tag, .sl (Tw x_simples)]
def iw:List zU->List (List PV)
 |[]=>[]
 |v::r=>Zd v::iw r
def Za:zH->List PV
 |⟨x_kind,x_name,x_op,x_value,x_fold,x_anb,x_of_,x_list⟩=>[.at (.int .u8 x_kind), .str x_name, .at (.int .u8 x_op), .str x_value, .at (.bool x_fold), .at (.int .i64 x_anb.a), .at (.int .i64 x_anb.b), .at (.bool x_of_), .sl (Xw x_list)]
def Tw:List zH->List (List PV)
 |[]=>[]
 |v::r=>Za v::Tw r
end
theorem fB: ∀(l:List zu),Xw l=l.map zA
 |[]=>by rw[Xw];rfl
 |v::r=>by rw[Xw,fB r];rfl
theorem JC: ∀(l:List zU),iw l=l.map Zd
 |[]=>by rw[iw];rfl
 |v::r=>by rw[iw,JC r];rfl
theorem xB: ∀(l:List zH),Tw l=l.map Za
 |[]=>by rw[Tw];rfl
 |v::r=>by rw[Tw,xB r];rfl
def kG(x:zk):List PV:=[.at (.int .u8 x.kind), .str x.text, .at (.int .i64 x.num), .str x.unit, .at (.bool x.flag)]
mutual
def zf:za->List PV
 |⟨x_token,x_list⟩=>[.at (.int .u8 x_token.kind), .str x_token.text, .at (.int .i64 x_token.num), .str x_token.unit, .at (.bool x_token.flag), .sl (Mw x_list)]
def Mw:List za->List (List PV)
 |[]=>[]
 |v::r=>zf v::Mw r
end
theorem IQ: ∀(l:List za),Mw l=l.map zf
 |[]=>by rw[Mw];rfl
 |v::r=>by rw[Mw,IQ r];rfl
def ZH(x:Zm):List PV:=[.str x.name, .sl (x.value.map zf), .at (.bool x.important)]
mutual
def zw:zt->List PV
 |⟨x_kind,x_name,x_num,x_decl,x_list⟩=>[.at (.int .u8 x_kind), .str x_name, .at (.int .i64 x_num), .str x_decl.name, .sl (x_decl.value.map zf), .at (.bool x_decl.important), .sl (Gw x_list)]
def Gw:List zt->List (List PV)
 |[]=>[]
 |v::r=>zw v::Gw r
end
theorem sP: ∀(l:List zt),Gw l=l.map zw
 |[]=>by rw[Gw];rfl
 |v::r=>by rw[Gw,sP r];rfl
mutual
def zD:zJ->List PV
 |⟨x_kind,x_selectors,x_decls,x_cond,x_names,x_rules⟩=>[.at (.int .u8 x_kind), .sl (x_selectors.map zA), .sl (x_decls.map ZH), .at (.int .u8 x_cond.kind), .str x_cond.name, .at (.int .i64 x_cond.num), .str x_cond.decl.name, .sl (x_cond.decl.value.map zf), .at (.bool x_cond.decl.important), .sl (x_cond.list.map zw), .sl (x_names.map (fun y=>[.sl (y.map (fun y=>[.str y]))])), .sl (Fw x_rules)]
def Fw:List zJ->List (List PV)
 |[]=>[]
 |v::r=>zD v::Fw r
end
theorem rP: ∀(l:List zJ),Fw l=l.map zD
 |[]=>by rw[Fw];rfl
 |v::r=>by rw[Fw,rP r];rfl
def mW(x:zdy):List PV:=[.sl (x.rules.map zD)]
def C9(x:zN):List PV:=[.sl (x.l.map kG)]
def J9(x:zh):List PV:=[.sl (x.v.map zf)]
def A9(x:ZA):List PV:=[.at (.int .i64 x.depth), .at (.int .i64 x.tokens), .at (.bool x.bad)]
def p8(x:zaa):List PV:=[.at (.int .u8 x.kind), .str x.name, .at (.int .u8 x.op), .str x.value, .at (.bool x.fold), .at (.int .i64 x.anb.a), .at (.int .i64 x.anb.b), .at (.bool x.of_)]
def ze7(x:Z7):List PV:=[.at (.int .i64 x.x), .at (.int .i64 x.y), .at (.bool x.signed), .at (.int .u8 x.code)]
def zjP(x:zg):List PV:=[.at (.int .i64 x.deep), .at (.bool x.has)]
def ziR(x:zq):List PV:=[.sl (x.v.map zf), .at (.int .i64 x.at_)]
def I9(x:Zg):List PV:=[.at (.int .i64 x.rules), .at (.int .i64 x.depth), .at (.bool x.bad)]
def d9(x:zo):List PV:=[.at (.int .i64 x.room), .at (.int .i64 x.constructs)]
def zjQ(x:zb):List PV:=[.str x.s, .at (.int .i64 x.at_)]
theorem oH(x:zu):zA x=[.at (.int .u8 x.lead), .sl (x.parts.map Zd), .sl (x.combs.map (fun y=>[.at (.int .u8 y.toNat)]))]:=by cases x;simp only[zA,fB,JC,xB]
theorem lH(x:zU):Zd x=[.str x.tag, .sl (x.simples.map Za)]:=by cases x;simp only[Zd,fB,JC,xB]
theorem jH(x:zH):Za x=[.at (.int .u8 x.kind), .str x.name, .at (.int .u8 x.op), .str x.value, .at (.bool x.fold), .at (.int .i64 x.anb.a), .at (.int .i64 x.anb.b), .at (.bool x.of_), .sl (x.list.map zA)]:=by cases x;simp only[Za,fB,JC,xB]
theorem fH(x:za):zf x=[.at (.int .u8 x.token.kind), .str x.token.text, .at (.int .i64 x.token.num), .str x.token.unit, .at (.bool x.token.flag), .sl (x.list.map zf)]:=by cases x;simp only[zf,IQ]
theorem VH(x:zt):zw x=[.at (.int .u8 x.kind), .str x.name, .at (.int .i64 x.num), .str x.decl.name, .sl (x.decl.value.map zf), .at (.bool x.decl.important), .sl (x.list.map zw)]:=by cases x;simp only[zw,sP]
theorem UH(x:zJ):zD x=[.at (.int .u8 x.kind), .sl (x.selectors.map zA), .sl (x.decls.map ZH), .at (.int .u8 x.cond.kind), .str x.cond.name, .at (.int .i64 x.cond.num), .str x.cond.decl.name, .sl (x.cond.decl.value.map zf), .at (.bool x.cond.decl.important), .sl (x.cond.list.map zw), .sl (x.names.map (fun y=>[.sl (y.map (fun y=>[.str y]))])), .sl (x.rules.map zD)]:=by cases x;simp only[zD,rP]
def fC(n:Nat):(c:TC)->Ct c->List PV
 | .bool,(x:Bool)=>[.at (.bool x)]
 | .int_i32,(x:Int)=>[.at (.int .i32 x)]
 | .int_i64,(x:Int)=>[.at (.int .i64 x)]
 | .int_u32,(x:Int)=>[.at (.int .u32 x)]
 | .int_u64,(x:Int)=>[.at (.int .u64 x)]
 | .int_u8,(x:UInt8)=>[.at (.int .u8 x.toNat)]
 | .sl_115,(x:List zu)=>[.sl (x.map zA)]
 | .sl_138,(x:List zU)=>[.sl (x.map Zd)]
 | .sl_190,(x:List zH)=>[.sl (x.map Za)]
 | .sl_2,(x:List Int)=>[.sl (x.map (fun y=>[.at (.int .i64 y)]))]
 | .sl_37,(x:List (List za))=>[.sl (x.map (fun y=>[.sl (y.map zf)]))]
 | .sl_39,(x:List Zm)=>[.sl (x.map ZH)]
 | .sl_42,(x:List zt)=>[.sl (x.map zw)]
 | .sl_45,(x:List zJ)=>[.sl (x.map zD)]
 | .sl_46,(x:List (List Str))=>[.sl (x.map (fun y=>[.sl (y.map (fun y=>[.str y]))]))]
 | .sl_5,(x:List UInt8)=>[.sl (x.map (fun y=>[.at (.int .u8 y.toNat)]))]
 | .sl_57,(x:List ZG)=>[.sl (x.map oP)]
 | .sl_59,(x:List zk)=>[.sl (x.map kG)]
 | .sl_61,(x:List za)=>[.sl (x.map zf)]
 | .sl_9,(x:List Str)=>[.sl (x.map (fun y=>[.str y]))]
 | .st_VAnb,(x:VAnb)=>zBE x
 | .st_VArr2_i64,(x:ZG)=>oP x
 | .st_VComplex,(x:zu)=>zA x
 | .st_VCompound,(x:zU)=>Zd x
 | .st_VCond,(x:zt)=>zw x
 | .st_VDecl,(x:Zm)=>ZH x
 | .st_VRule,(x:zJ)=>zD x
 | .st_VSheet,(x:zdy)=>mW x
 | .st_VSimple,(x:zH)=>Za x
 | .st_VToken,(x:zk)=>kG x
 | .st_VValue,(x:za)=>zf x
 | .st_Vanb_reader,(x:zN)=>C9 x
 | .st_Vcond_reader,(x:zh)=>J9 x
 | .st_Vnest_found,(x:ZA)=>A9 x
 | .st_Vref08_base,(x:zaa)=>p8 x
 | .st_Vruntime_boundsError,(x:Z7)=>ze7 x
 | .st_Vseltext_place,(x:zg)=>zjP x
 | .st_Vseltext_reader,(x:zq)=>ziR x
 | .st_Vsheet_found,(x:Zg)=>I9 x
 | .st_Vsheet_parser,(x:zo)=>d9 x
 | .st_Vtoken_scanner,(x:zb)=>zjQ x
 | .str,(x:Str)=>[.str x]
 | .other,_=>List.replicate n (.at (.slice none 0 0))
def eC(n:Nat):(c:TC)->Ct c->List (EV Cn)
 | .bool,(x:Bool)=>[.bool x]
 | .int_i32,(x:Int)=>[.int .i32 x]
 | .int_i64,(x:Int)=>[.int .i64 x]
 | .int_u32,(x:Int)=>[.int .u32 x]
 | .int_u64,(x:Int)=>[.int .u64 x]
 | .int_u8,(x:UInt8)=>[.int .u8 (x.toNat:Int)]
 | .sl_115,(x:List zu)=>[.sl 115 x]
 | .sl_138,(x:List zU)=>[.sl 138 x]
 | .sl_190,(x:List zH)=>[.sl 190 x]
 | .sl_2,(x:List Int)=>[.sl 2 x]
 | .sl_37,(x:List (List za))=>[.sl 37 x]
 | .sl_39,(x:List Zm)=>[.sl 39 x]
 | .sl_42,(x:List zt)=>[.sl 42 x]
 | .sl_45,(x:List zJ)=>[.sl 45 x]
 | .sl_46,(x:List (List Str))=>[.sl 46 x]
 | .sl_5,(x:List UInt8)=>[.sl 5 x]
 | .sl_57,(x:List ZG)=>[.sl 57 x]
 | .sl_59,(x:List zk)=>[.sl 59 x]
 | .sl_61,(x:List za)=>[.sl 61 x]
 | .sl_9,(x:List Str)=>[.sl 9 x]
 | .st_VAnb,(x:VAnb)=>[.int .i64 x.a, .int .i64 x.b]
 | .st_VArr2_i64,(x:ZG)=>[.int .i64 x.e0, .int .i64 x.e1]
 | .st_VComplex,(x:zu)=>[.int .u8 x.lead, .sl 138 x.parts, .sl 5 x.combs]
 | .st_VCompound,(x:zU)=>[.str x.tag, .sl 190 x.simples]
 | .st_VCond,(x:zt)=>[.int .u8 x.kind, .str x.name, .int .i64 x.num, .str x.decl.name, .sl 61 x.decl.value, .bool x.decl.important, .sl 42 x.list]
 | .st_VDecl,(x:Zm)=>[.str x.name, .sl 61 x.value, .bool x.important]
 | .st_VRule,(x:zJ)=>[.int .u8 x.kind, .sl 115 x.selectors, .sl 39 x.decls, .int .u8 x.cond.kind, .str x.cond.name, .int .i64 x.cond.num, .str x.cond.decl.name, .sl 61 x.cond.decl.value, .bool x.cond.decl.important, .sl 42 x.cond.list, .sl 46 x.names, .sl 45 x.rules]
 | .st_VSheet,(x:zdy)=>[.sl 45 x.rules]
 | .st_VSimple,(x:zH)=>[.int .u8 x.kind, .str x.name, .int .u8 x.op, .str x.value, .bool x.fold, .int .i64 x.anb.a, .int .i64 x.anb.b, .bool x.of_, .sl 115 x.list]
 | .st_VToken,(x:zk)=>[.int .u8 x.kind, .str x.text, .int .i64 x.num, .str x.unit, .bool x.flag]
 | .st_VValue,(x:za)=>[.int .u8 x.token.kind, .str x.token.text, .int .i64 x.token.num, .str x.token.unit, .bool x.token.flag, .sl 61 x.list]
 | .st_Vanb_reader,(x:zN)=>[.sl 59 x.l]
 | .st_Vcond_reader,(x:zh)=>[.sl 61 x.v]
 | .st_Vnest_found,(x:ZA)=>[.int .i64 x.depth, .int .i64 x.tokens, .bool x.bad]
 | .st_Vref08_base,(x:zaa)=>[.int .u8 x.kind, .str x.name, .int .u8 x.op, .str x.value, .bool x.fold, .int .i64 x.anb.a, .int .i64 x.anb.b, .bool x.of_]
 | .st_Vruntime_boundsError,(x:Z7)=>[.int .i64 x.x, .int .i64 x.y, .bool x.signed, .int .u8 x.code]
 | .st_Vseltext_place,(x:zg)=>[.int .i64 x.deep, .bool x.has]
 | .st_Vseltext_reader,(x:zq)=>[.sl 61 x.v, .int .i64 x.at_]
 | .st_Vsheet_found,(x:Zg)=>[.int .i64 x.rules, .int .i64 x.depth, .bool x.bad]
 | .st_Vsheet_parser,(x:zo)=>[.int .i64 x.room, .int .i64 x.constructs]
 | .st_Vtoken_scanner,(x:zb)=>[.str x.s, .int .i64 x.at_]
 | .str,(x:Str)=>[.str x]
 | .other,_=>List.replicate n .nil
def mC:(c:TC)->List (EV Cn)->Option (Ct c)
 | .bool=>mF Dh mE
 | .int_i32=>mF (dInt .i32) mE
 | .int_i64=>mF (dInt .i64) mE
 | .int_u32=>mF (dInt .u32) mE
 | .int_u64=>mF (dInt .u64) mE
 | .int_u8=>mB
 | .sl_115=>mF (dSl 115) mE
 | .sl_138=>mF (dSl 138) mE
 | .sl_190=>mF (dSl 190) mE
 | .sl_2=>mF (dSl 2) mE
 | .sl_37=>mF (dSl 37) mE
 | .sl_39=>mF (dSl 39) mE
 | .sl_42=>mF (dSl 42) mE
 | .sl_45=>mF (dSl 45) mE
 | .sl_46=>mF (dSl 46) mE
 | .sl_5=>mF (dSl 5) mE
 | .sl_57=>mF (dSl 57) mE
 | .sl_59=>mF (dSl 59) mE
 | .sl_61=>mF (dSl 61) mE
 | .sl_9=>mF (dSl 9) mE
 | .st_VAnb=>mF (dInt .i64) fun x0=>mF (dInt .i64) fun x1=>mE (⟨x0,x1⟩:VAnb)
 | .st_VArr2_i64=>mF (dInt .i64) fun x0=>mF (dInt .i64) fun x1=>mE (⟨x0,x1⟩:ZG)
 | .st_VComplex=>mF (dInt .u8) fun x0=>mF (dSl 138) fun x1=>mF (dSl 5) fun x2=>mE (⟨x0,x1,x2⟩:zu)
 | .st_VCompound=>mF dStr fun x0=>mF (dSl 190) fun x1=>mE (⟨x0,x1⟩:zU)
 | .st_VCond=>mF (dInt .u8) fun x0=>mF dStr fun x1=>mF (dInt .i64) fun x2=>mF dStr fun x3=>mF (dSl 61) fun x4=>mF Dh fun x5=>mF (dSl 42) fun x6=>mE (⟨x0,x1,x2,(⟨x3,x4,x5⟩:Zm),x6⟩:zt)
 | .st_VDecl=>mF dStr fun x0=>mF (dSl 61) fun x1=>mF Dh fun x2=>mE (⟨x0,x1,x2⟩:Zm)
 | .st_VRule=>mF (dInt .u8) fun x0=>mF (dSl 115) fun x1=>mF (dSl 39) fun x2=>mF (dInt .u8) fun x3=>mF dStr fun x4=>mF (dInt .i64) fun x5=>mF dStr fun x6=>mF (dSl 61) fun x7=>mF Dh fun x8=>mF (dSl 42) fun x9=>mF (dSl 46) fun x10=>mF (dSl 45) fun x11=>mE (⟨x0,x1,x2,(⟨x3,x4,x5,(⟨x6,x7,x8⟩:Zm),x9⟩:zt),x10,x11⟩:zJ)
 | .st_VSheet=>mF (dSl 45) fun x0=>mE (⟨x0⟩:zdy)
 | .st_VSimple=>mF (dInt .u8) fun x0=>mF dStr fun x1=>mF (dInt .u8) fun x2=>mF dStr fun x3=>mF Dh fun x4=>mF (dInt .i64) fun x5=>mF (dInt .i64) fun x6=>mF Dh fun x7=>mF (dSl 115) fun x8=>mE (⟨x0,x1,x2,x3,x4,(⟨x5,x6⟩:VAnb),x7,x8⟩:zH)
 | .st_VToken=>mF (dInt .u8) fun x0=>mF dStr fun x1=>mF (dInt .i64) fun x2=>mF dStr fun x3=>mF Dh fun x4=>mE (⟨x0,x1,x2,x3,x4⟩:zk)
 | .st_VValue=>mF (dInt .u8) fun x0=>mF dStr fun x1=>mF (dInt .i64) fun x2=>mF dStr fun x3=>mF Dh fun x4=>mF (dSl 61) fun x5=>mE (⟨(⟨x0,x1,x2,x3,x4⟩:zk),x5⟩:za)
 | .st_Vanb_reader=>mF (dSl 59) fun x0=>mE (⟨x0⟩:zN)
 | .st_Vcond_reader=>mF (dSl 61) fun x0=>mE (⟨x0⟩:zh)
 | .st_Vnest_found=>mF (dInt .i64) fun x0=>mF (dInt .i64) fun x1=>mF Dh fun x2=>mE (⟨x0,x1,x2⟩:ZA)
 | .st_Vref08_base=>mF (dInt .u8) fun x0=>mF dStr fun x1=>mF (dInt .u8) fun x2=>mF dStr fun x3=>mF Dh fun x4=>mF (dInt .i64) fun x5=>mF (dInt .i64) fun x6=>mF Dh fun x7=>mE (⟨x0,x1,x2,x3,x4,(⟨x5,x6⟩:VAnb),x7⟩:zaa)
 | .st_Vruntime_boundsError=>mF (dInt .i64) fun x0=>mF (dInt .i64) fun x1=>mF Dh fun x2=>mF (dInt .u8) fun x3=>mE (⟨x0,x1,x2,x3⟩:Z7)
 | .st_Vseltext_place=>mF (dInt .i64) fun x0=>mF Dh fun x1=>mE (⟨x0,x1⟩:zg)
 | .st_Vseltext_reader=>mF (dSl 61) fun x0=>mF (dInt .i64) fun x1=>mE (⟨x0,x1⟩:zq)
 | .st_Vsheet_found=>mF (dInt .i64) fun x0=>mF (dInt .i64) fun x1=>mF Dh fun x2=>mE (⟨x0,x1,x2⟩:Zg)
 | .st_Vsheet_parser=>mF (dInt .i64) fun x0=>mF (dInt .i64) fun x1=>mE (⟨x0,x1⟩:zo)
 | .st_Vtoken_scanner=>mF dStr fun x0=>mF (dInt .i64) fun x1=>mE (⟨x0,x1⟩:zb)
 | .str=>mF dStr mE
 | .other=>fun _=>none
def bC:(c:TC)->Option ((List UInt8->List (Ct c))×(List (Ct c)->List UInt8))
 | .int_u8=>some (fun l=>l,fun l=>l)
 |_=>none
noncomputable def I:Ip:=⟨Cn,fun t=>dC (tc t),fun t=>eC (Tryz.prog.cellsOf t) (tc t),fun t=>mC (tc t),fun t=>fC (Tryz.prog.cellsOf t) (tc t),fun t=>bC (tc t)⟩
theorem zG0:(tab.all fun p=>Nat.beq (Tryz.prog.cellsOf p.1) (size p.2))=true:=by kernel_rfl
theorem zBn(t:Nat)(h:tc t≠ .other):Tryz.prog.cellsOf t=size (tc t):=by
 unfold tc at h ⊢;cases hl:lk tab t with
 |none=>rw[hl]at h;exact absurd rfl h
 |some c=> simp only;exact Na (Dc.1 zG0 _ (Pg hl))
theorem zEy(n:Nat)(c:TC)(cs:List (EV Cn))(x:Ct c)(h:mC c cs=some x):All2 (Dec I) cs (fC n c x):=by
 cases c
 case other=>cases h
 case int_u8=>exact zHi h
 all_goals
  simp only[mC]at h
  repeat
   obtain⟨_,_,_,rfl,hd,h⟩:=zGe h
   first|replace hd:=BK (I:=I) hd|replace hd:=zD1 (I:=I) hd|replace hd:=zBy (I:=I) hd|replace hd:=zFV (I:=I) hd
  obtain⟨rfl,rfl⟩:=zGd h;simp only[fC,oH,lH,jH,fH,VH,UH]
  repeat first|exact .nil|assumption|refine .cons ?_ ?_
theorem fe(n:Nat)(c:TC)(x:Ct c):fC n c x=(eC n c x).map (pvE I):=by
 cases c
 case other=>show List.replicate n _=(List.replicate n EV.nil).map (pvE I);rw[List.map_replicate];rfl
 all_goals first|exact oH x|exact lH x|exact jH x|exact fH x|exact VH x|exact UH x|rfl
theorem zFX(n:Nat)(c:TC)(x:Ct c)(h:c≠ .other->n=size c):(eC n c x).length=n:=by
 cases c
 case other=>simp[eC]
 all_goals (rw[h (by simp)];rfl)
theorem zD4(n:Nat)(c:TC)(x:Ct c):(eC n c x).all (Kk (I:=I))=true:=by
 cases c
 case other=>exact Dc.2 fun v hv=>by rw[(List.mem_replicate.1 hv).2];rfl
 all_goals rfl
theorem zG1:(tab.all fun p=>match p.2 with| .int_u8=>(match kdOf Tryz.prog p.1 with| .int .u8=>true|_=>false)|_=>true)=true:=by kernel_rfl
theorem zHh(t:Nat)(h:tc t= .int_u8):kdOf Tryz.prog t= .int .u8:=by
 unfold tc at h;cases hl:lk tab t with
 |none=>rw[hl]at h;cases h
 |some c=>
  rw[hl]at h;have h:c= .int_u8:=h;subst h;have:=Dc.1 zG1 _ (Pg hl);simp only at this;split at this
  ·assumption
  ·cases this
theorem zDP(n:Nat): ∀(c:TC) (p:(List UInt8->List (Ct c))×(List (Ct c)->List UInt8)),bC c=some p->(∀l,(p.1 l).map (fC n c)=l.map fun b=>[PV.at (.int .u8 b.toNat)])/\(∀l,l.map (fC n c)=(p.2 l).map fun b=>[PV.at (.int .u8 b.toNat)])/\c= .int_u8:=by
 intro c p h;cases c
 case int_u8=>cases h;exact⟨fun l=>rfl,fun l=>rfl,rfl⟩
 all_goals cases h
theorem zFO(t:Nat)(p:(List UInt8->List (I.C t))×(List (I.C t)->List UInt8))(h:I.byt t=some p):(∀l,(p.1 l).map (I.full t)=l.map fun b=>[PV.at (.int .u8 b.toNat)])/\(∀l,l.map (I.full t)=(p.2 l).map fun b=>[PV.at (.int .u8 b.toNat)])/\kdOf Tryz.prog t= .int .u8:=by obtain⟨h1,h2,h3⟩:=zDP (Tryz.prog.cellsOf t) (tc t) p h;exact⟨h1,h2,zHh t h3⟩
theorem ipOK:IpOK Tryz.prog I where
 len:=fun t x=>by show(fC _ _ x).length=_;exact(congrArg List.length (fe _ (tc t) x)).trans ((Ab ..).trans (zFX _ (tc t) x (zBn t)))
 exp:=fun t x=>fe _ _ x
 pur:=fun t x v hv=>Dc.1 (zD4 _ _ x) v hv
 made:=fun t cs x h=>decs (zEy _ _ cs x h)
 byt:=zFO
def tl:List Nat:=[2,3,4,5,6,7,9,11,21,25,27,28,35,36,37,39,40,42,43,45,46,49,52,57,59,61,63,67,74,77,88,102,104,109,113,115,118,136,138,178,180,185,187,190,197,200,209,224,238,286,288,305,314,316,327]
noncomputable def T:TT:=tl.map fun t=>(t,ti Tryz.prog t)
def FK:List (Nat×List Kd):=[(59,[.int .u8, .str, .int .i64, .str, .bool]),(185,[.int .i64, .int .i64]),(187,[.int .u8, .str, .int .u8, .str, .bool, .int .i64, .int .i64, .bool])]
theorem tok:TOK Tryz.prog T FK:=NJ (l:=tl) (by
 intro p hp;simp only[FK,Db,Pe,or_false]at hp;rcases hp with rfl|rfl|rfl<;>kernel_rfl)
theorem mixed:Tryz.prog.follows .mixedOrders=true:=by kernel_rfl
noncomputable def body(f:Go.Func):Code:=match f.body with|some c=>c|none=> .skip
noncomputable def rsl(f:Go.Func):List ResultVar:=f.results.toList
end Go.Lv.VT
