/- What stands for the values of types. -/
import Derived.Test.YtkecjfeffabgiaaGreatDoorProg
import Derived.Test.YtkecjfeffabgiaaGreatDoorLf
import Derived.Test.YtkecjfeffabgiaaGreatDoorTy
import Derived.KernelRfl
set_option linter.unusedSimpArgs false
set_option linter.unusedVariables false
namespace Go.Lv.VT
set_option maxRecDepth 100000
open Go.Proofs
inductive TC where
 |bool|int_i32|int_i64|int_u32|int_u64|int_u8|sl_2|sl_211|sl_216|sl_22|sl_24|sl_27|sl_4|sl_5|sl_57|sl_59|sl_9|st_VArr12_str|st_VArr2_i64|st_VCond|st_VDecl|st_VEnv|st_VToken|st_VValue|st_Vcond_reader|st_Vglue_start|st_Vnest_found|st_Vtoken_scanner|str|other
def Ct:TC->Type
 | .bool=>Bool| .int_i32=>Int| .int_i64=>Int| .int_u32=>Int| .int_u64=>Int| .int_u8=>UInt8| .sl_2=>List Int| .sl_211=>List zO| .sl_216=>List QS| .sl_22=>List (List ze)| .sl_24=>List zA| .sl_27=>List zg| .sl_4=>List Bool| .sl_5=>List UInt8| .sl_57=>List zk| .sl_59=>List ze| .sl_9=>List Str| .st_VArr12_str=>zao| .st_VArr2_i64=>QS| .st_VCond=>zg| .st_VDecl=>zA| .st_VEnv=>VEnv| .st_VToken=>zk| .st_VValue=>ze| .st_Vcond_reader=>zh| .st_Vglue_start=>zO| .st_Vnest_found=>zy| .st_Vtoken_scanner=>za| .str=>Str| .other=>Unit
def tab:List (Nat×TC):=[(2, .int_i64),(3, .int_i64),(4, .bool),(5, .int_u8),(9, .str),(12, .int_u64),(21, .int_i32),(22, .sl_59),(24, .st_VDecl),(25, .sl_27),(27, .st_VCond),(29, .st_VEnv),(30, .sl_4),(32, .sl_24),(33, .int_i64),(52, .sl_9),(57, .st_VToken),(59, .st_VValue),(62, .sl_57),(85, .st_Vcond_reader),(87, .sl_22),(111, .st_Vnest_found),(121, .st_Vtoken_scanner),(133, .sl_5),(172, .sl_2),(177, .sl_216),(189, .int_u32),(206, .int_u64),(208, .sl_211),(211, .st_Vglue_start),(216, .st_VArr2_i64),(220, .int_u64),(230, .st_VArr12_str)]
def tc(t:Nat):TC:=match lk tab t with|some c=>c|none=> .other
def Cn(t:Nat):Type:=Ct (tc t)
def dC:(c:TC)->Ct c
 | .bool=>(default:Bool)| .int_i32=>(default:Int)| .int_i64=>(default:Int)| .int_u32=>(default:Int)| .int_u64=>(default:Int)| .int_u8=>(default:UInt8)| .sl_2=>(default:List Int)| .sl_211=>(default:List zO)| .sl_216=>(default:List QS)| .sl_22=>(default:List (List ze))| .sl_24=>(default:List zA)| .sl_27=>(default:List zg)| .sl_4=>(default:List Bool)| .sl_5=>(default:List UInt8)| .sl_57=>(default:List zk)| .sl_59=>(default:List ze)| .sl_9=>(default:List Str)| .st_VArr12_str=>(default:zao)| .st_VArr2_i64=>(default:QS)| .st_VCond=>(default:zg)| .st_VDecl=>(default:zA)| .st_VEnv=>(default:VEnv)| .st_VToken=>(default:zk)| .st_VValue=>(default:ze)| .st_Vcond_reader=>(default:zh)| .st_Vglue_start=>(default:zO)| .st_Vnest_found=>(default:zy)| .st_Vtoken_scanner=>(default:za)| .str=>(default:Str)| .other=>()
def size:TC->Nat
 | .st_VArr12_str=>12| .st_VArr2_i64=>2| .st_VCond=>7| .st_VDecl=>3| .st_VToken=>5| .st_VValue=>6| .st_Vglue_start=>2| .st_Vnest_found=>3| .st_Vtoken_scanner=>2|_=>1
def dZ(x:zao):List PV:=[.str x.e0, .str x.e1, .str x.e2, .str x.e3, .str x.e4, .str x.e5, .str x.e6, .str x.e7, .str x.e8, .str x.e9, .str x.e10, .str x.e11]
def ML(x:QS):List PV:=[.at (.int .i64 x.e0), .at (.int .i64 x.e1)]
def UJ(x:zk):List PV:=[.at (.int .u8 x.kind), .str x.text, .at (.int .i64 x.num), .str x.unit, .at (.bool x.flag)]
mutual
def zY:ze->List PV
 |⟨x_token,x_list⟩=>[.at (.int .u8 x_token.kind), .str x_token.text, .at (.int .i64 x_token.num), .str x_token.unit, .at (.bool x_token.flag), .sl (mr x_list)]
def mr:List ze->List (List PV)
 |[]=>[]
 |v::r=>zY v::mr r
end
theorem dx: ∀(l:List ze),mr l=l.map zY
 |[]=>by rw[mr];rfl
 |v::r=>by rw[mr,dx r];rfl
def QV(x:zA):List PV:=[.str x.name, .sl (x.value.map zY), .at (.bool x.important)]
mutual
def zo:zg->List PV
 |⟨x_kind,x_name,x_num,x_decl,x_list⟩=>[.at (.int .u8 x_kind), .str x_name, .at (.int .i64 x_num), .str x_decl.name, .sl (x_decl.value.map zY), .at (.bool x_decl.important), .sl (Sr x_list)]
def Sr:List zg->List (List PV)
 |[]=>[]
 |v::r=>zo v::Sr r
end
theorem Ux: ∀(l:List zg),Sr l=l.map zo
 |[]=>by rw[Sr];rfl
 |v::r=>by rw[Sr,Ux r];rfl
def nS(x:VEnv):List PV:=[.at (.int .i64 x.width)]
def I4(x:zh):List PV:=[.sl (x.v.map zY)]
def iM(x:zO):List PV:=[.at (.int .i64 x.token), .at (.int .i64 x.at_)]
def U0(x:zy):List PV:=[.at (.int .i64 x.depth), .at (.int .i64 x.tokens), .at (.bool x.bad)]
def K5(x:za):List PV:=[.str x.s, .at (.int .i64 x.at_)]
theorem KL(x_token:zk)(x_list:List ze):zY ⟨x_token,x_list⟩=[.at (.int .u8 x_token.kind), .str x_token.text, .at (.int .i64 x_token.num), .str x_token.unit, .at (.bool x_token.flag), .sl (x_list.map zY)]:=by simp only[zY,dx]
theorem gK(x_kind:Int)(x_name:Str)(x_num:Int)(x_decl:zA)(x_list:List zg):zo ⟨x_kind,x_name,x_num,x_decl,x_list⟩=[.at (.int .u8 x_kind), .str x_name, .at (.int .i64 x_num), .str x_decl.name, .sl (x_decl.value.map zY), .at (.bool x_decl.important), .sl (x_list.map zo)]:=by simp only[zo,Ux]
theorem cZ(x:ze):zY x=[.at (.int .u8 x.token.kind), .str x.token.text, .at (.int .i64 x.token.num), .str x.token.unit, .at (.bool x.token.flag), .sl (x.list.map zY)]:=by cases x;exact KL ..
theorem EY(x:zg):zo x=[.at (.int .u8 x.kind), .str x.name, .at (.int .i64 x.num), .str x.decl.name, .sl (x.decl.value.map zY), .at (.bool x.decl.important), .sl (x.list.map zo)]:=by cases x;exact gK ..
def fC(n:Nat):(c:TC)->Ct c->List PV
 | .bool,(x:Bool)=>[.at (.bool x)]
 | .int_i32,(x:Int)=>[.at (.int .i32 x)]
 | .int_i64,(x:Int)=>[.at (.int .i64 x)]
 | .int_u32,(x:Int)=>[.at (.int .u32 x)]
 | .int_u64,(x:Int)=>[.at (.int .u64 x)]
 | .int_u8,(x:UInt8)=>[.at (.int .u8 x.toNat)]
 | .sl_2,(x:List Int)=>[.sl (x.map (fun y=>[.at (.int .i64 y)]))]
 | .sl_211,(x:List zO)=>[.sl (x.map iM)]
 | .sl_216,(x:List QS)=>[.sl (x.map ML)]
 | .sl_22,(x:List (List ze))=>[.sl (x.map (fun y=>[.sl (y.map zY)]))]
 | .sl_24,(x:List zA)=>[.sl (x.map QV)]
 | .sl_27,(x:List zg)=>[.sl (x.map zo)]
 | .sl_4,(x:List Bool)=>[.sl (x.map (fun y=>[.at (.bool y)]))]
 | .sl_5,(x:List UInt8)=>[.sl (x.map (fun y=>[.at (.int .u8 y.toNat)]))]
 | .sl_57,(x:List zk)=>[.sl (x.map UJ)]
 | .sl_59,(x:List ze)=>[.sl (x.map zY)]
 | .sl_9,(x:List Str)=>[.sl (x.map (fun y=>[.str y]))]
 | .st_VArr12_str,(x:zao)=>dZ x
 | .st_VArr2_i64,(x:QS)=>ML x
 | .st_VCond,(x:zg)=>zo x
 | .st_VDecl,(x:zA)=>QV x
 | .st_VEnv,(x:VEnv)=>nS x
 | .st_VToken,(x:zk)=>UJ x
 | .st_VValue,(x:ze)=>zY x
 | .st_Vcond_reader,(x:zh)=>I4 x
 | .st_Vglue_start,(x:zO)=>iM x
 | .st_Vnest_found,(x:zy)=>U0 x
 | .st_Vtoken_scanner,(x:za)=>K5 x
 | .str,(x:Str)=>[.str x]
 | .other,_=>List.replicate n (.at (.slice none 0 0))
def eC(n:Nat):(c:TC)->Ct c->List (EV Cn)
 | .bool,(x:Bool)=>[.bool x]
 | .int_i32,(x:Int)=>[.int .i32 x]
 | .int_i64,(x:Int)=>[.int .i64 x]
 | .int_u32,(x:Int)=>[.int .u32 x]
 | .int_u64,(x:Int)=>[.int .u64 x]
 | .int_u8,(x:UInt8)=>[.int .u8 (x.toNat:Int)]
 | .sl_2,(x:List Int)=>[.sl 2 x]
 | .sl_211,(x:List zO)=>[.sl 211 x]
 | .sl_216,(x:List QS)=>[.sl 216 x]
 | .sl_22,(x:List (List ze))=>[.sl 22 x]
 | .sl_24,(x:List zA)=>[.sl 24 x]
 | .sl_27,(x:List zg)=>[.sl 27 x]
 | .sl_4,(x:List Bool)=>[.sl 4 x]
 | .sl_5,(x:List UInt8)=>[.sl 5 x]
 | .sl_57,(x:List zk)=>[.sl 57 x]
 | .sl_59,(x:List ze)=>[.sl 59 x]
 | .sl_9,(x:List Str)=>[.sl 9 x]
 | .st_VArr12_str,(x:zao)=>[.str x.e0, .str x.e1, .str x.e2, .str x.e3, .str x.e4, .str x.e5, .str x.e6, .str x.e7, .str x.e8, .str x.e9, .str x.e10, .str x.e11]
 | .st_VArr2_i64,(x:QS)=>[.int .i64 x.e0, .int .i64 x.e1]
 | .st_VCond,(x:zg)=>[.int .u8 x.kind, .str x.name, .int .i64 x.num, .str x.decl.name, .sl 59 x.decl.value, .bool x.decl.important, .sl 27 x.list]
 | .st_VDecl,(x:zA)=>[.str x.name, .sl 59 x.value, .bool x.important]
 | .st_VEnv,(x:VEnv)=>[.int .i64 x.width]
 | .st_VToken,(x:zk)=>[.int .u8 x.kind, .str x.text, .int .i64 x.num, .str x.unit, .bool x.flag]
 | .st_VValue,(x:ze)=>[.int .u8 x.token.kind, .str x.token.text, .int .i64 x.token.num, .str x.token.unit, .bool x.token.flag, .sl 59 x.list]
 | .st_Vcond_reader,(x:zh)=>[.sl 59 x.v]
 | .st_Vglue_start,(x:zO)=>[.int .i64 x.token, .int .i64 x.at_]
 | .st_Vnest_found,(x:zy)=>[.int .i64 x.depth, .int .i64 x.tokens, .bool x.bad]
 | .st_Vtoken_scanner,(x:za)=>[.str x.s, .int .i64 x.at_]
 | .str,(x:Str)=>[.str x]
 | .other,_=>List.replicate n .nil
def WB:EV Cn->Option Int
 | .int .i32 n=>some n
 |_=>none
def Pg:EV Cn->Option Int
 | .int .i64 n=>some n
 |_=>none
def VB:EV Cn->Option Int
 | .int .u32 n=>some n
 |_=>none
def UB:EV Cn->Option Int
 | .int .u64 n=>some n
 |_=>none
def Sm:EV Cn->Option Int
 | .int .u8 n=>some n
 |_=>none
def Oi:EV Cn->Option Bool
 | .bool b=>some b
 |_=>none
def dStr:EV Cn->Option Str
 | .str l=>some l
 |_=>none
def Bz:EV Cn->Option (List Int)
 | .nil=>some []
 | .sl 2 l=>some l
 |_=>none
def Az:EV Cn->Option (List Bool)
 | .nil=>some []
 | .sl 4 l=>some l
 |_=>none
def xy:EV Cn->Option (List UInt8)
 | .nil=>some []
 | .sl 5 l=>some l
 |_=>none
def wy:EV Cn->Option (List Str)
 | .nil=>some []
 | .sl 9 l=>some l
 |_=>none
def cz:EV Cn->Option (List (List ze))
 | .nil=>some []
 | .sl 22 l=>some l
 |_=>none
def bz:EV Cn->Option (List zA)
 | .nil=>some []
 | .sl 24 l=>some l
 |_=>none
def Tu:EV Cn->Option (List zg)
 | .nil=>some []
 | .sl 27 l=>some l
 |_=>none
def az:EV Cn->Option (List zk)
 | .nil=>some []
 | .sl 57 l=>some l
 |_=>none
def Wj:EV Cn->Option (List ze)
 | .nil=>some []
 | .sl 59 l=>some l
 |_=>none
def SA:EV Cn->Option (List zO)
 | .nil=>some []
 | .sl 211 l=>some l
 |_=>none
def RA:EV Cn->Option (List QS)
 | .nil=>some []
 | .sl 216 l=>some l
 |_=>none
def mC:(c:TC)->List (EV Cn)->Option (Ct c)
 | .bool=>fun cs=>match cs with|[a0]=>(Oi a0).bind fun x0=>some x0|_=>none
 | .int_i32=>fun cs=>match cs with|[a0]=>(WB a0).bind fun x0=>some x0|_=>none
 | .int_i64=>fun cs=>match cs with|[a0]=>(Pg a0).bind fun x0=>some x0|_=>none
 | .int_u32=>fun cs=>match cs with|[a0]=>(VB a0).bind fun x0=>some x0|_=>none
 | .int_u64=>fun cs=>match cs with|[a0]=>(UB a0).bind fun x0=>some x0|_=>none
 | .int_u8=>fun cs=>match cs with|[a0]=>(Sm a0).bind qD|_=>none
 | .sl_2=>fun cs=>match cs with|[a0]=>(Bz a0).bind fun x0=>some x0|_=>none
 | .sl_211=>fun cs=>match cs with|[a0]=>(SA a0).bind fun x0=>some x0|_=>none
 | .sl_216=>fun cs=>match cs with|[a0]=>(RA a0).bind fun x0=>some x0|_=>none
 | .sl_22=>fun cs=>match cs with|[a0]=>(cz a0).bind fun x0=>some x0|_=>none
 | .sl_24=>fun cs=>match cs with|[a0]=>(bz a0).bind fun x0=>some x0|_=>none
 | .sl_27=>fun cs=>match cs with|[a0]=>(Tu a0).bind fun x0=>some x0|_=>none
 | .sl_4=>fun cs=>match cs with|[a0]=>(Az a0).bind fun x0=>some x0|_=>none
 | .sl_5=>fun cs=>match cs with|[a0]=>(xy a0).bind fun x0=>some x0|_=>none
 | .sl_57=>fun cs=>match cs with|[a0]=>(az a0).bind fun x0=>some x0|_=>none
 | .sl_59=>fun cs=>match cs with|[a0]=>(Wj a0).bind fun x0=>some x0|_=>none
 | .sl_9=>fun cs=>match cs with|[a0]=>(wy a0).bind fun x0=>some x0|_=>none
 | .st_VArr12_str=>fun cs=>match cs with|[a0,a1,a2,a3,a4,a5,a6,a7,a8,a9,a10,a11]=>(dStr a0).bind fun x0=>(dStr a1).bind fun x1=>(dStr a2).bind fun x2=>(dStr a3).bind fun x3=>(dStr a4).bind fun x4=>(dStr a5).bind fun x5=>(dStr a6).bind fun x6=>(dStr a7).bind fun x7=>(dStr a8).bind fun x8=>(dStr a9).bind fun x9=>(dStr a10).bind fun x10=>(dStr a11).bind fun x11=>some (⟨x0,x1,x2,x3,x4,x5,x6,x7,x8,x9,x10,x11⟩:zao)|_=>none
 | .st_VArr2_i64=>fun cs=>match cs with|[a0,a1]=>(Pg a0).bind fun x0=>(Pg a1).bind fun x1=>some (⟨x0,x1⟩:QS)|_=>none
 | .st_VCond=>fun cs=>match cs with|[a0,a1,a2,a3,a4,a5,a6]=>(Sm a0).bind fun x0=>(dStr a1).bind fun x1=>(Pg a2).bind fun x2=>(dStr a3).bind fun x3=>(Wj a4).bind fun x4=>(Oi a5).bind fun x5=>(Tu a6).bind fun x6=>some (⟨x0,x1,x2,(⟨x3,x4,x5⟩:zA),x6⟩:zg)|_=>none
 | .st_VDecl=>fun cs=>match cs with|[a0,a1,a2]=>(dStr a0).bind fun x0=>(Wj a1).bind fun x1=>(Oi a2).bind fun x2=>some (⟨x0,x1,x2⟩:zA)|_=>none
 | .st_VEnv=>fun cs=>match cs with|[a0]=>(Pg a0).bind fun x0=>some (⟨x0⟩:VEnv)|_=>none
 | .st_VToken=>fun cs=>match cs with|[a0,a1,a2,a3,a4]=>(Sm a0).bind fun x0=>(dStr a1).bind fun x1=>(Pg a2).bind fun x2=>(dStr a3).bind fun x3=>(Oi a4).bind fun x4=>some (⟨x0,x1,x2,x3,x4⟩:zk)|_=>none
 | .st_VValue=>fun cs=>match cs with|[a0,a1,a2,a3,a4,a5]=>(Sm a0).bind fun x0=>(dStr a1).bind fun x1=>(Pg a2).bind fun x2=>(dStr a3).bind fun x3=>(Oi a4).bind fun x4=>(Wj a5).bind fun x5=>some (⟨(⟨x0,x1,x2,x3,x4⟩:zk),x5⟩:ze)|_=>none
 | .st_Vcond_reader=>fun cs=>match cs with|[a0]=>(Wj a0).bind fun x0=>some (⟨x0⟩:zh)|_=>none
 | .st_Vglue_start=>fun cs=>match cs with|[a0,a1]=>(Pg a0).bind fun x0=>(Pg a1).bind fun x1=>some (⟨x0,x1⟩:zO)|_=>none
 | .st_Vnest_found=>fun cs=>match cs with|[a0,a1,a2]=>(Pg a0).bind fun x0=>(Pg a1).bind fun x1=>(Oi a2).bind fun x2=>some (⟨x0,x1,x2⟩:zy)|_=>none
 | .st_Vtoken_scanner=>fun cs=>match cs with|[a0,a1]=>(dStr a0).bind fun x0=>(Pg a1).bind fun x1=>some (⟨x0,x1⟩:za)|_=>none
 | .str=>fun cs=>match cs with|[a0]=>(dStr a0).bind fun x0=>some x0|_=>none
 | .other=>fun _=>none
def bC:(c:TC)->Option ((List UInt8->List (Ct c))×(List (Ct c)->List UInt8))
 | .int_u8=>some (fun l=>l,fun l=>l)
 |_=>none
noncomputable def I:Ip:=⟨Cn,fun t=>dC (tc t),fun t=>eC (Tryz.prog.cellsOf t) (tc t),fun t=>mC (tc t),fun t=>fC (Tryz.prog.cellsOf t) (tc t),fun t=>bC (tc t)⟩
theorem JP:(tab.all fun p=>Nat.beq (Tryz.prog.cellsOf p.1) (size p.2))=true:=by kernel_rfl
theorem mR(t:Nat)(h:tc t≠ .other):Tryz.prog.cellsOf t=size (tc t):=by
 unfold tc at h ⊢;cases hl:lk tab t with
 |none=>rw[hl]at h;exact absurd rfl h
 |some c=> simp only;exact Ha (Xa.1 JP _ (Tf hl))
def Dec(a:EV Cn)(p:PV):Prop:=ug (I:=I) a=true/\WkP (pvE I a) p
theorem decs{cs:List (EV Cn)}{ps:List PV}(h:All2 Dec cs ps):(∀v∈cs,ug (I:=I) v=true)/\cs.length=ps.length/\ ∀(j:Nat) (a b:PV),(cs.map (pvE I))[j]? =some a->ps[j]? =some b->WkP a b:=by
 induction h with
 |nil=>exact⟨fun v hv=>(by cases hv),rfl,fun j a b ha=>(by cases ha)⟩
 |cons h1 _ ih=>
  refine⟨fun v hv=> ?_,congrArg Nat.succ ih.2.1,fun j a b ha hb=> ?_⟩
  ·rcases Ua.1 hv with rfl|hv
   ·exact h1.1
   ·exact ih.1 v hv
  ·cases j with
   |zero=>injection ha with ha;injection hb with hb;rw[<-ha,<-hb];exact h1.2
   |succ j=>exact ih.2.2 j a b ha hb
theorem DW{a:EV Cn}{x:Int}(h:WB a=some x):Dec a (.at (.int .i32 x)):=by
 unfold WB at h;split at h
 ·cases h;exact⟨rfl, .refl _⟩
 ·cases h
theorem qF{a:EV Cn}{x:Int}(h:Pg a=some x):Dec a (.at (.int .i64 x)):=by
 unfold Pg at h;split at h
 ·cases h;exact⟨rfl, .refl _⟩
 ·cases h
theorem CW{a:EV Cn}{x:Int}(h:VB a=some x):Dec a (.at (.int .u32 x)):=by
 unfold VB at h;split at h
 ·cases h;exact⟨rfl, .refl _⟩
 ·cases h
theorem yV{a:EV Cn}{x:Int}(h:UB a=some x):Dec a (.at (.int .u64 x)):=by
 unfold UB at h;split at h
 ·cases h;exact⟨rfl, .refl _⟩
 ·cases h
theorem Yw{a:EV Cn}{x:Int}(h:Sm a=some x):Dec a (.at (.int .u8 x)):=by
 unfold Sm at h;split at h
 ·cases h;exact⟨rfl, .refl _⟩
 ·cases h
theorem ym{a:EV Cn}{x:Bool}(h:Oi a=some x):Dec a (.at (.bool x)):=by
 unfold Oi at h;split at h
 ·cases h;exact⟨rfl, .refl _⟩
 ·cases h
theorem QG{a:EV Cn}{x:Str}(h:dStr a=some x):Dec a (.str x):=by
 unfold dStr at h;split at h
 ·cases h;exact⟨rfl, .refl _⟩
 ·cases h
theorem dR{a:EV Cn}{x:List Int}(h:Bz a=some x):Dec a (.sl (x.map (I.full 2))):=by
 unfold Bz at h;split at h
 ·cases h;exact⟨rfl, .nil⟩
 ·cases h;exact⟨rfl, .refl _⟩
 ·cases h
theorem bR{a:EV Cn}{x:List Bool}(h:Az a=some x):Dec a (.sl (x.map (I.full 4))):=by
 unfold Az at h;split at h
 ·cases h;exact⟨rfl, .nil⟩
 ·cases h;exact⟨rfl, .refl _⟩
 ·cases h
theorem aR{a:EV Cn}{x:List UInt8}(h:xy a=some x):Dec a (.sl (x.map (I.full 5))):=by
 unfold xy at h;split at h
 ·cases h;exact⟨rfl, .nil⟩
 ·cases h;exact⟨rfl, .refl _⟩
 ·cases h
theorem YR{a:EV Cn}{x:List Str}(h:wy a=some x):Dec a (.sl (x.map (I.full 9))):=by
 unfold wy at h;split at h
 ·cases h;exact⟨rfl, .nil⟩
 ·cases h;exact⟨rfl, .refl _⟩
 ·cases h
theorem JU{a:EV Cn}{x:List (List ze)}(h:cz a=some x):Dec a (.sl (x.map (I.full 22))):=by
 unfold cz at h;split at h
 ·cases h;exact⟨rfl, .nil⟩
 ·cases h;exact⟨rfl, .refl _⟩
 ·cases h
theorem IU{a:EV Cn}{x:List zA}(h:bz a=some x):Dec a (.sl (x.map (I.full 24))):=by
 unfold bz at h;split at h
 ·cases h;exact⟨rfl, .nil⟩
 ·cases h;exact⟨rfl, .refl _⟩
 ·cases h
theorem mI{a:EV Cn}{x:List zg}(h:Tu a=some x):Dec a (.sl (x.map (I.full 27))):=by
 unfold Tu at h;split at h
 ·cases h;exact⟨rfl, .nil⟩
 ·cases h;exact⟨rfl, .refl _⟩
 ·cases h
theorem GU{a:EV Cn}{x:List zk}(h:az a=some x):Dec a (.sl (x.map (I.full 57))):=by
 unfold az at h;split at h
 ·cases h;exact⟨rfl, .nil⟩
 ·cases h;exact⟨rfl, .refl _⟩
 ·cases h
theorem uq{a:EV Cn}{x:List ze}(h:Wj a=some x):Dec a (.sl (x.map (I.full 59))):=by
 unfold Wj at h;split at h
 ·cases h;exact⟨rfl, .nil⟩
 ·cases h;exact⟨rfl, .refl _⟩
 ·cases h
theorem MV{a:EV Cn}{x:List zO}(h:SA a=some x):Dec a (.sl (x.map (I.full 211))):=by
 unfold SA at h;split at h
 ·cases h;exact⟨rfl, .nil⟩
 ·cases h;exact⟨rfl, .refl _⟩
 ·cases h
theorem LV{a:EV Cn}{x:List QS}(h:RA a=some x):Dec a (.sl (x.map (I.full 216))):=by
 unfold RA at h;split at h
 ·cases h;exact⟨rfl, .nil⟩
 ·cases h;exact⟨rfl, .refl _⟩
 ·cases h
theorem iP(n:Nat): ∀(c:TC) (cs:List (EV Cn)) (x:Ct c),mC c cs=some x->All2 Dec cs (fC n c x)
 | .bool,cs,x,h=>by
  simp only[mC]at h;split at h
  ·obtain⟨x0,h0,h⟩:=Aa.1 h;injection h with h;subst h;exact .cons (ym h0) .nil
  ·cases h
 | .int_i32,cs,x,h=>by
  simp only[mC]at h;split at h
  ·obtain⟨x0,h0,h⟩:=Aa.1 h;injection h with h;subst h;exact .cons (DW h0) .nil
  ·cases h
 | .int_i64,cs,x,h=>by
  simp only[mC]at h;split at h
  ·obtain⟨x0,h0,h⟩:=Aa.1 h;injection h with h;subst h;exact .cons (qF h0) .nil
  ·cases h
 | .int_u32,cs,x,h=>by
  simp only[mC]at h;split at h
  ·obtain⟨x0,h0,h⟩:=Aa.1 h;injection h with h;subst h;exact .cons (CW h0) .nil
  ·cases h
 | .int_u64,cs,x,h=>by
  simp only[mC]at h;split at h
  ·obtain⟨x0,h0,h⟩:=Aa.1 h;injection h with h;subst h;exact .cons (yV h0) .nil
  ·cases h
 | .int_u8,cs,x,h=>by
  simp only[mC]at h;split at h
  ·obtain⟨x0,h0,h⟩:=Aa.1 h;have:=UU h;subst this;exact .cons (Yw h0) .nil
  ·cases h
 | .sl_2,cs,x,h=>by
  simp only[mC]at h;split at h
  ·obtain⟨x0,h0,h⟩:=Aa.1 h;injection h with h;subst h;exact .cons (dR h0) .nil
  ·cases h
 | .sl_211,cs,x,h=>by
  simp only[mC]at h;split at h
  ·obtain⟨x0,h0,h⟩:=Aa.1 h;injection h with h;subst h;exact .cons (MV h0) .nil
  ·cases h
 | .sl_216,cs,x,h=>by
  simp only[mC]at h;split at h
  ·obtain⟨x0,h0,h⟩:=Aa.1 h;injection h with h;subst h;exact .cons (LV h0) .nil
  ·cases h
 | .sl_22,cs,x,h=>by
  simp only[mC]at h;split at h
  ·obtain⟨x0,h0,h⟩:=Aa.1 h;injection h with h;subst h;exact .cons (JU h0) .nil
  ·cases h
 | .sl_24,cs,x,h=>by
  simp only[mC]at h;split at h
  ·obtain⟨x0,h0,h⟩:=Aa.1 h;injection h with h;subst h;exact .cons (IU h0) .nil
  ·cases h
 | .sl_27,cs,x,h=>by
  simp only[mC]at h;split at h
  ·obtain⟨x0,h0,h⟩:=Aa.1 h;injection h with h;subst h;exact .cons (mI h0) .nil
  ·cases h
 | .sl_4,cs,x,h=>by
  simp only[mC]at h;split at h
  ·obtain⟨x0,h0,h⟩:=Aa.1 h;injection h with h;subst h;exact .cons (bR h0) .nil
  ·cases h
 | .sl_5,cs,x,h=>by
  simp only[mC]at h;split at h
  ·obtain⟨x0,h0,h⟩:=Aa.1 h;injection h with h;subst h;exact .cons (aR h0) .nil
  ·cases h
 | .sl_57,cs,x,h=>by
  simp only[mC]at h;split at h
  ·obtain⟨x0,h0,h⟩:=Aa.1 h;injection h with h;subst h;exact .cons (GU h0) .nil
  ·cases h
 | .sl_59,cs,x,h=>by
  simp only[mC]at h;split at h
  ·obtain⟨x0,h0,h⟩:=Aa.1 h;injection h with h;subst h;exact .cons (uq h0) .nil
  ·cases h
 | .sl_9,cs,x,h=>by
  simp only[mC]at h;split at h
  ·obtain⟨x0,h0,h⟩:=Aa.1 h;injection h with h;subst h;exact .cons (YR h0) .nil
  ·cases h
 | .st_VArr12_str,cs,x,h=>by
  simp only[mC]at h;split at h
  ·obtain⟨x0,h0,h⟩:=Aa.1 h;obtain⟨x1,h1,h⟩:=Aa.1 h;obtain⟨x2,h2,h⟩:=Aa.1 h;obtain⟨x3,h3,h⟩:=Aa.1 h;obtain⟨x4,h4,h⟩:=Aa.1 h;obtain⟨x5,h5,h⟩:=Aa.1 h;obtain⟨x6,h6,h⟩:=Aa.1 h;obtain⟨x7,h7,h⟩:=Aa.1 h;obtain⟨x8,h8,h⟩:=Aa.1 h;obtain⟨x9,h9,h⟩:=Aa.1 h;obtain⟨x10,h10,h⟩:=Aa.1 h;obtain⟨x11,h11,h⟩:=Aa.1 h;injection h with h;subst h;exact .cons (QG h0) (.cons (QG h1) (.cons (QG h2) (.cons (QG h3) (.cons (QG h4) (.cons (QG h5) (.cons (QG h6) (.cons (QG h7) (.cons (QG h8) (.cons (QG h9) (.cons (QG h10) (.cons (QG h11) .nil)))))))))))
  ·cases h
 | .st_VArr2_i64,cs,x,h=>by
  simp only[mC]at h;split at h
  ·obtain⟨x0,h0,h⟩:=Aa.1 h;obtain⟨x1,h1,h⟩:=Aa.1 h;injection h with h;subst h;exact .cons (qF h0) (.cons (qF h1) .nil)
  ·cases h
 | .st_VCond,cs,x,h=>by
  simp only[mC]at h;split at h
  ·obtain⟨x0,h0,h⟩:=Aa.1 h;obtain⟨x1,h1,h⟩:=Aa.1 h;obtain⟨x2,h2,h⟩:=Aa.1 h;obtain⟨x3,h3,h⟩:=Aa.1 h;obtain⟨x4,h4,h⟩:=Aa.1 h;obtain⟨x5,h5,h⟩:=Aa.1 h;obtain⟨x6,h6,h⟩:=Aa.1 h;injection h with h;subst h;show All2 Dec _ (zo _);simp only[zo,Ux];exact .cons (Yw h0) (.cons (QG h1) (.cons (qF h2) (.cons (QG h3) (.cons (uq h4) (.cons (ym h5) (.cons (mI h6) .nil))))))
  ·cases h
 | .st_VDecl,cs,x,h=>by
  simp only[mC]at h;split at h
  ·obtain⟨x0,h0,h⟩:=Aa.1 h;obtain⟨x1,h1,h⟩:=Aa.1 h;obtain⟨x2,h2,h⟩:=Aa.1 h;injection h with h;subst h;exact .cons (QG h0) (.cons (uq h1) (.cons (ym h2) .nil))
  ·cases h
 | .st_VEnv,cs,x,h=>by
  simp only[mC]at h;split at h
  ·obtain⟨x0,h0,h⟩:=Aa.1 h;injection h with h;subst h;exact .cons (qF h0) .nil
  ·cases h
 | .st_VToken,cs,x,h=>by
  simp only[mC]at h;split at h
  ·obtain⟨x0,h0,h⟩:=Aa.1 h;obtain⟨x1,h1,h⟩:=Aa.1 h;obtain⟨x2,h2,h⟩:=Aa.1 h;obtain⟨x3,h3,h⟩:=Aa.1 h;obtain⟨x4,h4,h⟩:=Aa.1 h;injection h with h;subst h;exact .cons (Yw h0) (.cons (QG h1) (.cons (qF h2) (.cons (QG h3) (.cons (ym h4) .nil))))
  ·cases h
 | .st_VValue,cs,x,h=>by
  simp only[mC]at h;split at h
  ·obtain⟨x0,h0,h⟩:=Aa.1 h;obtain⟨x1,h1,h⟩:=Aa.1 h;obtain⟨x2,h2,h⟩:=Aa.1 h;obtain⟨x3,h3,h⟩:=Aa.1 h;obtain⟨x4,h4,h⟩:=Aa.1 h;obtain⟨x5,h5,h⟩:=Aa.1 h;injection h with h;subst h;show All2 Dec _ (zY _);simp only[zY,dx];exact .cons (Yw h0) (.cons (QG h1) (.cons (qF h2) (.cons (QG h3) (.cons (ym h4) (.cons (uq h5) .nil)))))
  ·cases h
 | .st_Vcond_reader,cs,x,h=>by
  simp only[mC]at h;split at h
  ·obtain⟨x0,h0,h⟩:=Aa.1 h;injection h with h;subst h;exact .cons (uq h0) .nil
  ·cases h
 | .st_Vglue_start,cs,x,h=>by
  simp only[mC]at h;split at h
  ·obtain⟨x0,h0,h⟩:=Aa.1 h;obtain⟨x1,h1,h⟩:=Aa.1 h;injection h with h;subst h;exact .cons (qF h0) (.cons (qF h1) .nil)
  ·cases h
 | .st_Vnest_found,cs,x,h=>by
  simp only[mC]at h;split at h
  ·obtain⟨x0,h0,h⟩:=Aa.1 h;obtain⟨x1,h1,h⟩:=Aa.1 h;obtain⟨x2,h2,h⟩:=Aa.1 h;injection h with h;subst h;exact .cons (qF h0) (.cons (qF h1) (.cons (ym h2) .nil))
  ·cases h
 | .st_Vtoken_scanner,cs,x,h=>by
  simp only[mC]at h;split at h
  ·obtain⟨x0,h0,h⟩:=Aa.1 h;obtain⟨x1,h1,h⟩:=Aa.1 h;injection h with h;subst h;exact .cons (QG h0) (.cons (qF h1) .nil)
  ·cases h
 | .str,cs,x,h=>by
  simp only[mC]at h;split at h
  ·obtain⟨x0,h0,h⟩:=Aa.1 h;injection h with h;subst h;exact .cons (QG h0) .nil
  ·cases h
 | .other,cs,x,h=>by cases h
theorem fe(n:Nat): ∀(c:TC) (x:Ct c),fC n c x=(eC n c x).map (pvE I)
 | .bool,x=>rfl
 | .int_i32,x=>rfl
 | .int_i64,x=>rfl
 | .int_u32,x=>rfl
 | .int_u64,x=>rfl
 | .int_u8,x=>rfl
 | .sl_2,x=>rfl
 | .sl_211,x=>rfl
 | .sl_216,x=>rfl
 | .sl_22,x=>rfl
 | .sl_24,x=>rfl
 | .sl_27,x=>rfl
 | .sl_4,x=>rfl
 | .sl_5,x=>rfl
 | .sl_57,x=>rfl
 | .sl_59,x=>rfl
 | .sl_9,x=>rfl
 | .st_VArr12_str,x=>rfl
 | .st_VArr2_i64,x=>rfl
 | .st_VCond,(x:zg)=>by obtain⟨x_kind,x_name,x_num,x_decl,x_list⟩:=x;show zo _=_;simp only[zo,Ux];rfl
 | .st_VDecl,x=>rfl
 | .st_VEnv,x=>rfl
 | .st_VToken,x=>rfl
 | .st_VValue,(x:ze)=>by obtain⟨x_token,x_list⟩:=x;show zY _=_;simp only[zY,dx];rfl
 | .st_Vcond_reader,x=>rfl
 | .st_Vglue_start,x=>rfl
 | .st_Vnest_found,x=>rfl
 | .st_Vtoken_scanner,x=>rfl
 | .str,x=>rfl
 | .other,x=>by show List.replicate n (PV.at (Value.slice none 0 0))=(List.replicate n EV.nil).map (pvE I);rw[List.map_replicate];rfl
theorem wO(n:Nat)(c:TC)(x:Ct c)(h:c≠ .other->n=size c):(eC n c x).length=n:=by
 cases c
 case other=>simp[eC]
 all_goals (rw[h (by simp)];rfl)
theorem EQ(n:Nat): ∀(c:TC) (x:Ct c),(eC n c x).all (ug (I:=I))=true
 | .bool,x=>rfl
 | .int_i32,x=>rfl
 | .int_i64,x=>rfl
 | .int_u32,x=>rfl
 | .int_u64,x=>rfl
 | .int_u8,x=>rfl
 | .sl_2,x=>rfl
 | .sl_211,x=>rfl
 | .sl_216,x=>rfl
 | .sl_22,x=>rfl
 | .sl_24,x=>rfl
 | .sl_27,x=>rfl
 | .sl_4,x=>rfl
 | .sl_5,x=>rfl
 | .sl_57,x=>rfl
 | .sl_59,x=>rfl
 | .sl_9,x=>rfl
 | .st_VArr12_str,x=>rfl
 | .st_VArr2_i64,x=>rfl
 | .st_VCond,x=>rfl
 | .st_VDecl,x=>rfl
 | .st_VEnv,x=>rfl
 | .st_VToken,x=>rfl
 | .st_VValue,x=>rfl
 | .st_Vcond_reader,x=>rfl
 | .st_Vglue_start,x=>rfl
 | .st_Vnest_found,x=>rfl
 | .st_Vtoken_scanner,x=>rfl
 | .str,x=>rfl
 | .other,x=>by show(List.replicate n EV.nil).all (ug (I:=I))=true;rw[Xa];intro v hv;rw[(List.mem_replicate.1 hv).2];rfl
theorem IP:(tab.all fun p=>match p.2 with| .int_u8=>(match kdOf Tryz.prog p.1 with| .int .u8=>true|_=>false)|_=>true)=true:=by kernel_rfl
theorem eP(t:Nat)(h:tc t= .int_u8):kdOf Tryz.prog t= .int .u8:=by
 unfold tc at h;cases hl:lk tab t with
 |none=>rw[hl]at h;cases h
 |some c=>
  rw[hl]at h;have h:c= .int_u8:=h;subst h;have:=Xa.1 IP _ (Tf hl);simp only at this;split at this
  ·assumption
  ·cases this
theorem ER(n:Nat): ∀(c:TC) (p:(List UInt8->List (Ct c))×(List (Ct c)->List UInt8)),bC c=some p->(∀l,(p.1 l).map (fC n c)=l.map fun b=>[PV.at (.int .u8 b.toNat)])/\(∀l,l.map (fC n c)=(p.2 l).map fun b=>[PV.at (.int .u8 b.toNat)])/\c= .int_u8:=by
 intro c p h;cases c
 case int_u8=>cases h;exact⟨fun l=>rfl,fun l=>rfl,rfl⟩
 all_goals cases h
theorem eQ(t:Nat)(p:(List UInt8->List (I.C t))×(List (I.C t)->List UInt8))(h:I.byt t=some p):(∀l,(p.1 l).map (I.full t)=l.map fun b=>[PV.at (.int .u8 b.toNat)])/\(∀l,l.map (I.full t)=(p.2 l).map fun b=>[PV.at (.int .u8 b.toNat)])/\kdOf Tryz.prog t= .int .u8:=by obtain⟨h1,h2,h3⟩:=ER (Tryz.prog.cellsOf t) (tc t) p h;exact⟨h1,h2,eP t h3⟩
theorem ipOK:IpOK Tryz.prog I where
 len:=fun t x=>by show(fC _ _ x).length=_;exact(congrArg List.length (fe _ (tc t) x)).trans ((Oa ..).trans (wO _ (tc t) x (mR t)))
 exp:=fun t x=>fe _ _ x
 pur:=fun t x v hv=>Xa.1 (EQ _ _ x) v hv
 made:=fun t cs x h=>decs (iP _ _ cs x h)
 byt:=eQ
noncomputable def T:TT:=[(2,ti Tryz.prog 2),(3,ti Tryz.prog 3),(4,ti Tryz.prog 4),(5,ti Tryz.prog 5),(9,ti Tryz.prog 9),(12,ti Tryz.prog 12),(21,ti Tryz.prog 21),(22,ti Tryz.prog 22),(24,ti Tryz.prog 24),(25,ti Tryz.prog 25),(27,ti Tryz.prog 27),(29,ti Tryz.prog 29),(30,ti Tryz.prog 30),(32,ti Tryz.prog 32),(33,ti Tryz.prog 33),(52,ti Tryz.prog 52),(57,ti Tryz.prog 57),(59,ti Tryz.prog 59),(62,ti Tryz.prog 62),(75,ti Tryz.prog 75),(79,ti Tryz.prog 79),(83,ti Tryz.prog 83),(85,ti Tryz.prog 85),(87,ti Tryz.prog 87),(111,ti Tryz.prog 111),(114,ti Tryz.prog 114),(119,ti Tryz.prog 119),(121,ti Tryz.prog 121),(133,ti Tryz.prog 133),(138,ti Tryz.prog 138),(172,ti Tryz.prog 172),(177,ti Tryz.prog 177),(189,ti Tryz.prog 189),(206,ti Tryz.prog 206),(208,ti Tryz.prog 208),(211,ti Tryz.prog 211),(216,ti Tryz.prog 216),(220,ti Tryz.prog 220),(230,ti Tryz.prog 230)]
def FK:List (Nat×List Kd):=[(57,[.int .u8, .str, .int .i64, .str, .bool])]
theorem tok:TOK Tryz.prog T FK:=Wz (l:=[2,3,4,5,9,12,21,22,24,25,27,29,30,32,33,52,57,59,62,75,79,83,85,87,111,114,119,121,133,138,172,177,189,206,208,211,216,220,230]) (by
 intro p hp;simp only[FK,Ua,jc,yf]at hp;rcases hp with rfl<;>kernel_rfl)
theorem mixed:Tryz.prog.follows .mixedOrders=true:=by kernel_rfl
noncomputable def body(f:Go.Func):Code:=match f.body with|some c=>c|none=> .skip
noncomputable def rsl(f:Go.Func):List ResultVar:=f.results.toList
end Go.Lv.VT
