/- What stands for the values of types. -/
import Derived.Test.YtkecjfeffabgiaaGreatDoorProg
import Derived.Test.YtkecjfeffabgiaaGreatDoorLf
import Derived.Test.YtkecjfeffabgiaaGreatDoorTy
import Derived.KernelRfl
set_option linter.unusedSimpArgs false
set_option linter.unusedVariables false
namespace Go.Lv.VT
set_option maxRecDepth 100000
open Go.Proofs
inductive TC where
 |bool|int_i32|int_i64|int_u32|int_u64|int_u8|sl_2|sl_211|sl_216|sl_22|sl_24|sl_27|sl_4|sl_5|sl_57|sl_59|sl_9|st_VArr12_str|st_VArr2_i64|st_VCond|st_VDecl|st_VEnv|st_VToken|st_VValue|st_Vcond_reader|st_Vglue_start|st_Vnest_found|st_Vtoken_scanner|str|other
def Ct:TC->Type
 | .bool=>Bool| .int_i32=>Int| .int_i64=>Int| .int_u32=>Int| .int_u64=>Int| .int_u8=>UInt8| .sl_2=>List Int| .sl_211=>List zP| .sl_216=>List zah| .sl_22=>List (List ze)| .sl_24=>List zA| .sl_27=>List zh| .sl_4=>List Bool| .sl_5=>List UInt8| .sl_57=>List zf| .sl_59=>List ze| .sl_9=>List Str| .st_VArr12_str=>zaO| .st_VArr2_i64=>zah| .st_VCond=>zh| .st_VDecl=>zA| .st_VEnv=>VEnv| .st_VToken=>zf| .st_VValue=>ze| .st_Vcond_reader=>zk| .st_Vglue_start=>zP| .st_Vnest_found=>zB| .st_Vtoken_scanner=>za| .str=>Str| .other=>Unit
def tab:List (Nat×TC):=[(2, .int_i64),(3, .int_i64),(4, .bool),(5, .int_u8),(9, .str),(12, .int_u64),(21, .int_i32),(22, .sl_59),(24, .st_VDecl),(25, .sl_27),(27, .st_VCond),(29, .st_VEnv),(30, .sl_4),(32, .sl_24),(33, .int_i64),(52, .sl_9),(57, .st_VToken),(59, .st_VValue),(62, .sl_57),(85, .st_Vcond_reader),(87, .sl_22),(111, .st_Vnest_found),(121, .st_Vtoken_scanner),(133, .sl_5),(172, .sl_2),(177, .sl_216),(189, .int_u32),(206, .int_u64),(208, .sl_211),(211, .st_Vglue_start),(216, .st_VArr2_i64),(220, .int_u64),(230, .st_VArr12_str)]
def tc(t:Nat):TC:=match lk tab t with|some c=>c|none=> .other
def Cn(t:Nat):Type:=Ct (tc t)
def dC:(c:TC)->Ct c
 | .bool=>(default:Bool)| .int_i32=>(default:Int)| .int_i64=>(default:Int)| .int_u32=>(default:Int)| .int_u64=>(default:Int)| .int_u8=>(default:UInt8)| .sl_2=>(default:List Int)| .sl_211=>(default:List zP)| .sl_216=>(default:List zah)| .sl_22=>(default:List (List ze))| .sl_24=>(default:List zA)| .sl_27=>(default:List zh)| .sl_4=>(default:List Bool)| .sl_5=>(default:List UInt8)| .sl_57=>(default:List zf)| .sl_59=>(default:List ze)| .sl_9=>(default:List Str)| .st_VArr12_str=>(default:zaO)| .st_VArr2_i64=>(default:zah)| .st_VCond=>(default:zh)| .st_VDecl=>(default:zA)| .st_VEnv=>(default:VEnv)| .st_VToken=>(default:zf)| .st_VValue=>(default:ze)| .st_Vcond_reader=>(default:zk)| .st_Vglue_start=>(default:zP)| .st_Vnest_found=>(default:zB)| .st_Vtoken_scanner=>(default:za)| .str=>(default:Str)| .other=>()
def size:TC->Nat
 | .st_VArr12_str=>12| .st_VArr2_i64=>2| .st_VCond=>7| .st_VDecl=>3| .st_VToken=>5| .st_VValue=>6| .st_Vglue_start=>2| .st_Vnest_found=>3| .st_Vtoken_scanner=>2|_=>1
def I1(x:zaO):List PV:=[.str x.e0, .str x.e1, .str x.e2, .str x.e3, .str x.e4, .str x.e5, .str x.e6, .str x.e7, .str x.e8, .str x.e9, .str x.e10, .str x.e11]
def lN(x:zah):List PV:=[.at (.int .i64 x.e0), .at (.int .i64 x.e1)]
def aL(x:zf):List PV:=[.at (.int .u8 x.kind), .str x.text, .at (.int .i64 x.num), .str x.unit, .at (.bool x.flag)]
mutual
def Za:ze->List PV
 |⟨x_token,x_list⟩=>[.at (.int .u8 x_token.kind), .str x_token.text, .at (.int .i64 x_token.num), .str x_token.unit, .at (.bool x_token.flag), .sl (Gu x_list)]
def Gu:List ze->List (List PV)
 |[]=>[]
 |v::r=>Za v::Gu r
end
theorem kz: ∀(l:List ze),Gu l=l.map Za
 |[]=>by rw[Gu];rfl
 |v::r=>by rw[Gu,kz r];rfl
def QL(x:zA):List PV:=[.str x.name, .sl (x.value.map Za), .at (.bool x.important)]
mutual
def zq:zh->List PV
 |⟨x_kind,x_name,x_num,x_decl,x_list⟩=>[.at (.int .u8 x_kind), .str x_name, .at (.int .i64 x_num), .str x_decl.name, .sl (x_decl.value.map Za), .at (.bool x_decl.important), .sl (Rt x_list)]
def Rt:List zh->List (List PV)
 |[]=>[]
 |v::r=>zq v::Rt r
end
theorem Uz: ∀(l:List zh),Rt l=l.map zq
 |[]=>by rw[Rt];rfl
 |v::r=>by rw[Rt,Uz r];rfl
def DT(x:VEnv):List PV:=[.at (.int .i64 x.width)]
def I7(x:zk):List PV:=[.sl (x.v.map Za)]
def vP(x:zP):List PV:=[.at (.int .i64 x.token), .at (.int .i64 x.at_)]
def G7(x:zB):List PV:=[.at (.int .i64 x.depth), .at (.int .i64 x.tokens), .at (.bool x.bad)]
def O8(x:za):List PV:=[.str x.s, .at (.int .i64 x.at_)]
theorem kN(x_token:zf)(x_list:List ze):Za ⟨x_token,x_list⟩=[.at (.int .u8 x_token.kind), .str x_token.text, .at (.int .i64 x_token.num), .str x_token.unit, .at (.bool x_token.flag), .sl (x_list.map Za)]:=by simp only[Za,kz]
theorem TM(x_kind:Int)(x_name:Str)(x_num:Int)(x_decl:zA)(x_list:List zh):zq ⟨x_kind,x_name,x_num,x_decl,x_list⟩=[.at (.int .u8 x_kind), .str x_name, .at (.int .i64 x_num), .str x_decl.name, .sl (x_decl.value.map Za), .at (.bool x_decl.important), .sl (x_list.map zq)]:=by simp only[zq,Uz]
theorem Y0(x:ze):Za x=[.at (.int .u8 x.token.kind), .str x.token.text, .at (.int .i64 x.token.num), .str x.token.unit, .at (.bool x.token.flag), .sl (x.list.map Za)]:=by cases x;exact kN ..
theorem dZ(x:zh):zq x=[.at (.int .u8 x.kind), .str x.name, .at (.int .i64 x.num), .str x.decl.name, .sl (x.decl.value.map Za), .at (.bool x.decl.important), .sl (x.list.map zq)]:=by cases x;exact TM ..
def fC(n:Nat):(c:TC)->Ct c->List PV
 | .bool,(x:Bool)=>[.at (.bool x)]
 | .int_i32,(x:Int)=>[.at (.int .i32 x)]
 | .int_i64,(x:Int)=>[.at (.int .i64 x)]
 | .int_u32,(x:Int)=>[.at (.int .u32 x)]
 | .int_u64,(x:Int)=>[.at (.int .u64 x)]
 | .int_u8,(x:UInt8)=>[.at (.int .u8 x.toNat)]
 | .sl_2,(x:List Int)=>[.sl (x.map (fun y=>[.at (.int .i64 y)]))]
 | .sl_211,(x:List zP)=>[.sl (x.map vP)]
 | .sl_216,(x:List zah)=>[.sl (x.map lN)]
 | .sl_22,(x:List (List ze))=>[.sl (x.map (fun y=>[.sl (y.map Za)]))]
 | .sl_24,(x:List zA)=>[.sl (x.map QL)]
 | .sl_27,(x:List zh)=>[.sl (x.map zq)]
 | .sl_4,(x:List Bool)=>[.sl (x.map (fun y=>[.at (.bool y)]))]
 | .sl_5,(x:List UInt8)=>[.sl (x.map (fun y=>[.at (.int .u8 y.toNat)]))]
 | .sl_57,(x:List zf)=>[.sl (x.map aL)]
 | .sl_59,(x:List ze)=>[.sl (x.map Za)]
 | .sl_9,(x:List Str)=>[.sl (x.map (fun y=>[.str y]))]
 | .st_VArr12_str,(x:zaO)=>I1 x
 | .st_VArr2_i64,(x:zah)=>lN x
 | .st_VCond,(x:zh)=>zq x
 | .st_VDecl,(x:zA)=>QL x
 | .st_VEnv,(x:VEnv)=>DT x
 | .st_VToken,(x:zf)=>aL x
 | .st_VValue,(x:ze)=>Za x
 | .st_Vcond_reader,(x:zk)=>I7 x
 | .st_Vglue_start,(x:zP)=>vP x
 | .st_Vnest_found,(x:zB)=>G7 x
 | .st_Vtoken_scanner,(x:za)=>O8 x
 | .str,(x:Str)=>[.str x]
 | .other,_=>List.replicate n (.at (.slice none 0 0))
def eC(n:Nat):(c:TC)->Ct c->List (EV Cn)
 | .bool,(x:Bool)=>[.bool x]
 | .int_i32,(x:Int)=>[.int .i32 x]
 | .int_i64,(x:Int)=>[.int .i64 x]
 | .int_u32,(x:Int)=>[.int .u32 x]
 | .int_u64,(x:Int)=>[.int .u64 x]
 | .int_u8,(x:UInt8)=>[.int .u8 (x.toNat:Int)]
 | .sl_2,(x:List Int)=>[.sl 2 x]
 | .sl_211,(x:List zP)=>[.sl 211 x]
 | .sl_216,(x:List zah)=>[.sl 216 x]
 | .sl_22,(x:List (List ze))=>[.sl 22 x]
 | .sl_24,(x:List zA)=>[.sl 24 x]
 | .sl_27,(x:List zh)=>[.sl 27 x]
 | .sl_4,(x:List Bool)=>[.sl 4 x]
 | .sl_5,(x:List UInt8)=>[.sl 5 x]
 | .sl_57,(x:List zf)=>[.sl 57 x]
 | .sl_59,(x:List ze)=>[.sl 59 x]
 | .sl_9,(x:List Str)=>[.sl 9 x]
 | .st_VArr12_str,(x:zaO)=>[.str x.e0, .str x.e1, .str x.e2, .str x.e3, .str x.e4, .str x.e5, .str x.e6, .str x.e7, .str x.e8, .str x.e9, .str x.e10, .str x.e11]
 | .st_VArr2_i64,(x:zah)=>[.int .i64 x.e0, .int .i64 x.e1]
 | .st_VCond,(x:zh)=>[.int .u8 x.kind, .str x.name, .int .i64 x.num, .str x.decl.name, .sl 59 x.decl.value, .bool x.decl.important, .sl 27 x.list]
 | .st_VDecl,(x:zA)=>[.str x.name, .sl 59 x.value, .bool x.important]
 | .st_VEnv,(x:VEnv)=>[.int .i64 x.width]
 | .st_VToken,(x:zf)=>[.int .u8 x.kind, .str x.text, .int .i64 x.num, .str x.unit, .bool x.flag]
 | .st_VValue,(x:ze)=>[.int .u8 x.token.kind, .str x.token.text, .int .i64 x.token.num, .str x.token.unit, .bool x.token.flag, .sl 59 x.list]
 | .st_Vcond_reader,(x:zk)=>[.sl 59 x.v]
 | .st_Vglue_start,(x:zP)=>[.int .i64 x.token, .int .i64 x.at_]
 | .st_Vnest_found,(x:zB)=>[.int .i64 x.depth, .int .i64 x.tokens, .bool x.bad]
 | .st_Vtoken_scanner,(x:za)=>[.str x.s, .int .i64 x.at_]
 | .str,(x:Str)=>[.str x]
 | .other,_=>List.replicate n .nil
def UD:EV Cn->Option Int
 | .int .i32 n=>some n
 |_=>none
def Vg:EV Cn->Option Int
 | .int .i64 n=>some n
 |_=>none
def TD:EV Cn->Option Int
 | .int .u32 n=>some n
 |_=>none
def RD:EV Cn->Option Int
 | .int .u64 n=>some n
 |_=>none
def Yn:EV Cn->Option Int
 | .int .u8 n=>some n
 |_=>none
def ni:EV Cn->Option Bool
 | .bool b=>some b
 |_=>none
def dStr:EV Cn->Option Str
 | .str l=>some l
 |_=>none
def oH:EV Cn->Option (List Int)
 | .nil=>some []
 | .sl 2 l=>some l
 |_=>none
def nH:EV Cn->Option (List Bool)
 | .nil=>some []
 | .sl 4 l=>some l
 |_=>none
def mH:EV Cn->Option (List UInt8)
 | .nil=>some []
 | .sl 5 l=>some l
 |_=>none
def lH:EV Cn->Option (List Str)
 | .nil=>some []
 | .sl 9 l=>some l
 |_=>none
def eB:EV Cn->Option (List (List ze))
 | .nil=>some []
 | .sl 22 l=>some l
 |_=>none
def dB:EV Cn->Option (List zA)
 | .nil=>some []
 | .sl 24 l=>some l
 |_=>none
def Kw:EV Cn->Option (List zh)
 | .nil=>some []
 | .sl 27 l=>some l
 |_=>none
def cB:EV Cn->Option (List zf)
 | .nil=>some []
 | .sl 57 l=>some l
 |_=>none
def Vk:EV Cn->Option (List ze)
 | .nil=>some []
 | .sl 59 l=>some l
 |_=>none
def EC:EV Cn->Option (List zP)
 | .nil=>some []
 | .sl 211 l=>some l
 |_=>none
def DC:EV Cn->Option (List zah)
 | .nil=>some []
 | .sl 216 l=>some l
 |_=>none
def mC:(c:TC)->List (EV Cn)->Option (Ct c)
 | .bool=>fun cs=>match cs with|[a0]=>(ni a0).bind fun x0=>some x0|_=>none
 | .int_i32=>fun cs=>match cs with|[a0]=>(UD a0).bind fun x0=>some x0|_=>none
 | .int_i64=>fun cs=>match cs with|[a0]=>(Vg a0).bind fun x0=>some x0|_=>none
 | .int_u32=>fun cs=>match cs with|[a0]=>(TD a0).bind fun x0=>some x0|_=>none
 | .int_u64=>fun cs=>match cs with|[a0]=>(RD a0).bind fun x0=>some x0|_=>none
 | .int_u8=>fun cs=>match cs with|[a0]=>(Yn a0).bind ZQ|_=>none
 | .sl_2=>fun cs=>match cs with|[a0]=>(oH a0).bind fun x0=>some x0|_=>none
 | .sl_211=>fun cs=>match cs with|[a0]=>(EC a0).bind fun x0=>some x0|_=>none
 | .sl_216=>fun cs=>match cs with|[a0]=>(DC a0).bind fun x0=>some x0|_=>none
 | .sl_22=>fun cs=>match cs with|[a0]=>(eB a0).bind fun x0=>some x0|_=>none
 | .sl_24=>fun cs=>match cs with|[a0]=>(dB a0).bind fun x0=>some x0|_=>none
 | .sl_27=>fun cs=>match cs with|[a0]=>(Kw a0).bind fun x0=>some x0|_=>none
 | .sl_4=>fun cs=>match cs with|[a0]=>(nH a0).bind fun x0=>some x0|_=>none
 | .sl_5=>fun cs=>match cs with|[a0]=>(mH a0).bind fun x0=>some x0|_=>none
 | .sl_57=>fun cs=>match cs with|[a0]=>(cB a0).bind fun x0=>some x0|_=>none
 | .sl_59=>fun cs=>match cs with|[a0]=>(Vk a0).bind fun x0=>some x0|_=>none
 | .sl_9=>fun cs=>match cs with|[a0]=>(lH a0).bind fun x0=>some x0|_=>none
 | .st_VArr12_str=>fun cs=>match cs with|[a0,a1,a2,a3,a4,a5,a6,a7,a8,a9,a10,a11]=>(dStr a0).bind fun x0=>(dStr a1).bind fun x1=>(dStr a2).bind fun x2=>(dStr a3).bind fun x3=>(dStr a4).bind fun x4=>(dStr a5).bind fun x5=>(dStr a6).bind fun x6=>(dStr a7).bind fun x7=>(dStr a8).bind fun x8=>(dStr a9).bind fun x9=>(dStr a10).bind fun x10=>(dStr a11).bind fun x11=>some (⟨x0,x1,x2,x3,x4,x5,x6,x7,x8,x9,x10,x11⟩:zaO)|_=>none
 | .st_VArr2_i64=>fun cs=>match cs with|[a0,a1]=>(Vg a0).bind fun x0=>(Vg a1).bind fun x1=>some (⟨x0,x1⟩:zah)|_=>none
 | .st_VCond=>fun cs=>match cs with|[a0,a1,a2,a3,a4,a5,a6]=>(Yn a0).bind fun x0=>(dStr a1).bind fun x1=>(Vg a2).bind fun x2=>(dStr a3).bind fun x3=>(Vk a4).bind fun x4=>(ni a5).bind fun x5=>(Kw a6).bind fun x6=>some (⟨x0,x1,x2,(⟨x3,x4,x5⟩:zA),x6⟩:zh)|_=>none
 | .st_VDecl=>fun cs=>match cs with|[a0,a1,a2]=>(dStr a0).bind fun x0=>(Vk a1).bind fun x1=>(ni a2).bind fun x2=>some (⟨x0,x1,x2⟩:zA)|_=>none
 | .st_VEnv=>fun cs=>match cs with|[a0]=>(Vg a0).bind fun x0=>some (⟨x0⟩:VEnv)|_=>none
 | .st_VToken=>fun cs=>match cs with|[a0,a1,a2,a3,a4]=>(Yn a0).bind fun x0=>(dStr a1).bind fun x1=>(Vg a2).bind fun x2=>(dStr a3).bind fun x3=>(ni a4).bind fun x4=>some (⟨x0,x1,x2,x3,x4⟩:zf)|_=>none
 | .st_VValue=>fun cs=>match cs with|[a0,a1,a2,a3,a4,a5]=>(Yn a0).bind fun x0=>(dStr a1).bind fun x1=>(Vg a2).bind fun x2=>(dStr a3).bind fun x3=>(ni a4).bind fun x4=>(Vk a5).bind fun x5=>some (⟨(⟨x0,x1,x2,x3,x4⟩:zf),x5⟩:ze)|_=>none
 | .st_Vcond_reader=>fun cs=>match cs with|[a0]=>(Vk a0).bind fun x0=>some (⟨x0⟩:zk)|_=>none
 | .st_Vglue_start=>fun cs=>match cs with|[a0,a1]=>(Vg a0).bind fun x0=>(Vg a1).bind fun x1=>some (⟨x0,x1⟩:zP)|_=>none
 | .st_Vnest_found=>fun cs=>match cs with|[a0,a1,a2]=>(Vg a0).bind fun x0=>(Vg a1).bind fun x1=>(ni a2).bind fun x2=>some (⟨x0,x1,x2⟩:zB)|_=>none
 | .st_Vtoken_scanner=>fun cs=>match cs with|[a0,a1]=>(dStr a0).bind fun x0=>(Vg a1).bind fun x1=>some (⟨x0,x1⟩:za)|_=>none
 | .str=>fun cs=>match cs with|[a0]=>(dStr a0).bind fun x0=>some x0|_=>none
 | .other=>fun _=>none
def bC:(c:TC)->Option ((List UInt8->List (Ct c))×(List (Ct c)->List UInt8))
 | .int_u8=>some (fun l=>l,fun l=>l)
 |_=>none
noncomputable def I:Ip:=⟨Cn,fun t=>dC (tc t),fun t=>eC (Tryz.prog.cellsOf t) (tc t),fun t=>mC (tc t),fun t=>fC (Tryz.prog.cellsOf t) (tc t),fun t=>bC (tc t)⟩
theorem zCT:(tab.all fun p=>Nat.beq (Tryz.prog.cellsOf p.1) (size p.2))=true:=by kernel_rfl
theorem eT(t:Nat)(h:tc t≠ .other):Tryz.prog.cellsOf t=size (tc t):=by
 unfold tc at h ⊢;cases hl:lk tab t with
 |none=>rw[hl]at h;exact absurd rfl h
 |some c=> simp only;exact Ia (Cb.1 zCT _ (Pf hl))
def Dec(a:EV Cn)(p:PV):Prop:=oh (I:=I) a=true/\WkP (pvE I a) p
theorem decs{cs:List (EV Cn)}{ps:List PV}(h:All2 Dec cs ps):(∀v∈cs,oh (I:=I) v=true)/\cs.length=ps.length/\ ∀(j:Nat) (a b:PV),(cs.map (pvE I))[j]? =some a->ps[j]? =some b->WkP a b:=by
 induction h with
 |nil=>exact⟨fun v hv=>(by cases hv),rfl,fun j a b ha=>(by cases ha)⟩
 |cons h1 _ ih=>
  refine⟨fun v hv=> ?_,congrArg Nat.succ ih.2.1,fun j a b ha hb=> ?_⟩
  ·rcases Ua.1 hv with rfl|hv
   ·exact h1.1
   ·exact ih.1 v hv
  ·cases j with
   |zero=>injection ha with ha;injection hb with hb;rw[<-ha,<-hb];exact h1.2
   |succ j=>exact ih.2.2 j a b ha hb
theorem dW{a:EV Cn}{x:Int}(h:UD a=some x):Dec a (.at (.int .i32 x)):=by
 unfold UD at h;split at h
 ·cases h;exact⟨rfl, .refl _⟩
 ·cases h
theorem qU{a:EV Cn}{x:Int}(h:Vg a=some x):Dec a (.at (.int .i64 x)):=by
 unfold Vg at h;split at h
 ·cases h;exact⟨rfl, .refl _⟩
 ·cases h
theorem bW{a:EV Cn}{x:Int}(h:TD a=some x):Dec a (.at (.int .u32 x)):=by
 unfold TD at h;split at h
 ·cases h;exact⟨rfl, .refl _⟩
 ·cases h
theorem aW{a:EV Cn}{x:Int}(h:RD a=some x):Dec a (.at (.int .u64 x)):=by
 unfold RD at h;split at h
 ·cases h;exact⟨rfl, .refl _⟩
 ·cases h
theorem gy{a:EV Cn}{x:Int}(h:Yn a=some x):Dec a (.at (.int .u8 x)):=by
 unfold Yn at h;split at h
 ·cases h;exact⟨rfl, .refl _⟩
 ·cases h
theorem Mo{a:EV Cn}{x:Bool}(h:ni a=some x):Dec a (.at (.bool x)):=by
 unfold ni at h;split at h
 ·cases h;exact⟨rfl, .refl _⟩
 ·cases h
theorem QX{a:EV Cn}{x:Str}(h:dStr a=some x):Dec a (.str x):=by
 unfold dStr at h;split at h
 ·cases h;exact⟨rfl, .refl _⟩
 ·cases h
theorem XT{a:EV Cn}{x:List Int}(h:oH a=some x):Dec a (.sl (x.map (I.full 2))):=by
 unfold oH at h;split at h
 ·cases h;exact⟨rfl, .nil⟩
 ·cases h;exact⟨rfl, .refl _⟩
 ·cases h
theorem WT{a:EV Cn}{x:List Bool}(h:nH a=some x):Dec a (.sl (x.map (I.full 4))):=by
 unfold nH at h;split at h
 ·cases h;exact⟨rfl, .nil⟩
 ·cases h;exact⟨rfl, .refl _⟩
 ·cases h
theorem UT{a:EV Cn}{x:List UInt8}(h:mH a=some x):Dec a (.sl (x.map (I.full 5))):=by
 unfold mH at h;split at h
 ·cases h;exact⟨rfl, .nil⟩
 ·cases h;exact⟨rfl, .refl _⟩
 ·cases h
theorem PT{a:EV Cn}{x:List Str}(h:lH a=some x):Dec a (.sl (x.map (I.full 9))):=by
 unfold lH at h;split at h
 ·cases h;exact⟨rfl, .nil⟩
 ·cases h;exact⟨rfl, .refl _⟩
 ·cases h
theorem OV{a:EV Cn}{x:List (List ze)}(h:eB a=some x):Dec a (.sl (x.map (I.full 22))):=by
 unfold eB at h;split at h
 ·cases h;exact⟨rfl, .nil⟩
 ·cases h;exact⟨rfl, .refl _⟩
 ·cases h
theorem NV{a:EV Cn}{x:List zA}(h:dB a=some x):Dec a (.sl (x.map (I.full 24))):=by
 unfold dB at h;split at h
 ·cases h;exact⟨rfl, .nil⟩
 ·cases h;exact⟨rfl, .refl _⟩
 ·cases h
theorem bK{a:EV Cn}{x:List zh}(h:Kw a=some x):Dec a (.sl (x.map (I.full 27))):=by
 unfold Kw at h;split at h
 ·cases h;exact⟨rfl, .nil⟩
 ·cases h;exact⟨rfl, .refl _⟩
 ·cases h
theorem MV{a:EV Cn}{x:List zf}(h:cB a=some x):Dec a (.sl (x.map (I.full 57))):=by
 unfold cB at h;split at h
 ·cases h;exact⟨rfl, .nil⟩
 ·cases h;exact⟨rfl, .refl _⟩
 ·cases h
theorem Mt{a:EV Cn}{x:List ze}(h:Vk a=some x):Dec a (.sl (x.map (I.full 59))):=by
 unfold Vk at h;split at h
 ·cases h;exact⟨rfl, .nil⟩
 ·cases h;exact⟨rfl, .refl _⟩
 ·cases h
theorem iV{a:EV Cn}{x:List zP}(h:EC a=some x):Dec a (.sl (x.map (I.full 211))):=by
 unfold EC at h;split at h
 ·cases h;exact⟨rfl, .nil⟩
 ·cases h;exact⟨rfl, .refl _⟩
 ·cases h
theorem gV{a:EV Cn}{x:List zah}(h:DC a=some x):Dec a (.sl (x.map (I.full 216))):=by
 unfold DC at h;split at h
 ·cases h;exact⟨rfl, .nil⟩
 ·cases h;exact⟨rfl, .refl _⟩
 ·cases h
theorem zBM(n:Nat): ∀(c:TC) (cs:List (EV Cn)) (x:Ct c),mC c cs=some x->All2 Dec cs (fC n c x)
 | .bool,cs,x,h=>by
  simp only[mC]at h;split at h
  ·obtain⟨x0,h0,h⟩:=Aa.1 h;injection h with h;subst h;exact .cons (Mo h0) .nil
  ·cases h
 | .int_i32,cs,x,h=>by
  simp only[mC]at h;split at h
  ·obtain⟨x0,h0,h⟩:=Aa.1 h;injection h with h;subst h;exact .cons (dW h0) .nil
  ·cases h
 | .int_i64,cs,x,h=>by
  simp only[mC]at h;split at h
  ·obtain⟨x0,h0,h⟩:=Aa.1 h;injection h with h;subst h;exact .cons (qU h0) .nil
  ·cases h
 | .int_u32,cs,x,h=>by
  simp only[mC]at h;split at h
  ·obtain⟨x0,h0,h⟩:=Aa.1 h;injection h with h;subst h;exact .cons (bW h0) .nil
  ·cases h
 | .int_u64,cs,x,h=>by
  simp only[mC]at h;split at h
  ·obtain⟨x0,h0,h⟩:=Aa.1 h;injection h with h;subst h;exact .cons (aW h0) .nil
  ·cases h
 | .int_u8,cs,x,h=>by
  simp only[mC]at h;split at h
  ·obtain⟨x0,h0,h⟩:=Aa.1 h;have:=mU h;subst this;exact .cons (gy h0) .nil
  ·cases h
 | .sl_2,cs,x,h=>by
  simp only[mC]at h;split at h
  ·obtain⟨x0,h0,h⟩:=Aa.1 h;injection h with h;subst h;exact .cons (XT h0) .nil
  ·cases h
 | .sl_211,cs,x,h=>by
  simp only[mC]at h;split at h
  ·obtain⟨x0,h0,h⟩:=Aa.1 h;injection h with h;subst h;exact .cons (iV h0) .nil
  ·cases h
 | .sl_216,cs,x,h=>by
  simp only[mC]at h;split at h
  ·obtain⟨x0,h0,h⟩:=Aa.1 h;injection h with h;subst h;exact .cons (gV h0) .nil
  ·cases h
 | .sl_22,cs,x,h=>by
  simp only[mC]at h;split at h
  ·obtain⟨x0,h0,h⟩:=Aa.1 h;injection h with h;subst h;exact .cons (OV h0) .nil
  ·cases h
 | .sl_24,cs,x,h=>by
  simp only[mC]at h;split at h
  ·obtain⟨x0,h0,h⟩:=Aa.1 h;injection h with h;subst h;exact .cons (NV h0) .nil
  ·cases h
 | .sl_27,cs,x,h=>by
  simp only[mC]at h;split at h
  ·obtain⟨x0,h0,h⟩:=Aa.1 h;injection h with h;subst h;exact .cons (bK h0) .nil
  ·cases h
 | .sl_4,cs,x,h=>by
  simp only[mC]at h;split at h
  ·obtain⟨x0,h0,h⟩:=Aa.1 h;injection h with h;subst h;exact .cons (WT h0) .nil
  ·cases h
 | .sl_5,cs,x,h=>by
  simp only[mC]at h;split at h
  ·obtain⟨x0,h0,h⟩:=Aa.1 h;injection h with h;subst h;exact .cons (UT h0) .nil
  ·cases h
 | .sl_57,cs,x,h=>by
  simp only[mC]at h;split at h
  ·obtain⟨x0,h0,h⟩:=Aa.1 h;injection h with h;subst h;exact .cons (MV h0) .nil
  ·cases h
 | .sl_59,cs,x,h=>by
  simp only[mC]at h;split at h
  ·obtain⟨x0,h0,h⟩:=Aa.1 h;injection h with h;subst h;exact .cons (Mt h0) .nil
  ·cases h
 | .sl_9,cs,x,h=>by
  simp only[mC]at h;split at h
  ·obtain⟨x0,h0,h⟩:=Aa.1 h;injection h with h;subst h;exact .cons (PT h0) .nil
  ·cases h
 | .st_VArr12_str,cs,x,h=>by
  simp only[mC]at h;split at h
  ·obtain⟨x0,h0,h⟩:=Aa.1 h;obtain⟨x1,h1,h⟩:=Aa.1 h;obtain⟨x2,h2,h⟩:=Aa.1 h;obtain⟨x3,h3,h⟩:=Aa.1 h;obtain⟨x4,h4,h⟩:=Aa.1 h;obtain⟨x5,h5,h⟩:=Aa.1 h;obtain⟨x6,h6,h⟩:=Aa.1 h;obtain⟨x7,h7,h⟩:=Aa.1 h;obtain⟨x8,h8,h⟩:=Aa.1 h;obtain⟨x9,h9,h⟩:=Aa.1 h;obtain⟨x10,h10,h⟩:=Aa.1 h;obtain⟨x11,h11,h⟩:=Aa.1 h;injection h with h;subst h;exact .cons (QX h0) (.cons (QX h1) (.cons (QX h2) (.cons (QX h3) (.cons (QX h4) (.cons (QX h5) (.cons (QX h6) (.cons (QX h7) (.cons (QX h8) (.cons (QX h9) (.cons (QX h10) (.cons (QX h11) .nil)))))))))))
  ·cases h
 | .st_VArr2_i64,cs,x,h=>by
  simp only[mC]at h;split at h
  ·obtain⟨x0,h0,h⟩:=Aa.1 h;obtain⟨x1,h1,h⟩:=Aa.1 h;injection h with h;subst h;exact .cons (qU h0) (.cons (qU h1) .nil)
  ·cases h
 | .st_VCond,cs,x,h=>by
  simp only[mC]at h;split at h
  ·obtain⟨x0,h0,h⟩:=Aa.1 h;obtain⟨x1,h1,h⟩:=Aa.1 h;obtain⟨x2,h2,h⟩:=Aa.1 h;obtain⟨x3,h3,h⟩:=Aa.1 h;obtain⟨x4,h4,h⟩:=Aa.1 h;obtain⟨x5,h5,h⟩:=Aa.1 h;obtain⟨x6,h6,h⟩:=Aa.1 h;injection h with h;subst h;show All2 Dec _ (zq _);simp only[zq,Uz];exact .cons (gy h0) (.cons (QX h1) (.cons (qU h2) (.cons (QX h3) (.cons (Mt h4) (.cons (Mo h5) (.cons (bK h6) .nil))))))
  ·cases h
 | .st_VDecl,cs,x,h=>by
  simp only[mC]at h;split at h
  ·obtain⟨x0,h0,h⟩:=Aa.1 h;obtain⟨x1,h1,h⟩:=Aa.1 h;obtain⟨x2,h2,h⟩:=Aa.1 h;injection h with h;subst h;exact .cons (QX h0) (.cons (Mt h1) (.cons (Mo h2) .nil))
  ·cases h
 | .st_VEnv,cs,x,h=>by
  simp only[mC]at h;split at h
  ·obtain⟨x0,h0,h⟩:=Aa.1 h;injection h with h;subst h;exact .cons (qU h0) .nil
  ·cases h
 | .st_VToken,cs,x,h=>by
  simp only[mC]at h;split at h
  ·obtain⟨x0,h0,h⟩:=Aa.1 h;obtain⟨x1,h1,h⟩:=Aa.1 h;obtain⟨x2,h2,h⟩:=Aa.1 h;obtain⟨x3,h3,h⟩:=Aa.1 h;obtain⟨x4,h4,h⟩:=Aa.1 h;injection h with h;subst h;exact .cons (gy h0) (.cons (QX h1) (.cons (qU h2) (.cons (QX h3) (.cons (Mo h4) .nil))))
  ·cases h
 | .st_VValue,cs,x,h=>by
  simp only[mC]at h;split at h
  ·obtain⟨x0,h0,h⟩:=Aa.1 h;obtain⟨x1,h1,h⟩:=Aa.1 h;obtain⟨x2,h2,h⟩:=Aa.1 h;obtain⟨x3,h3,h⟩:=Aa.1 h;obtain⟨x4,h4,h⟩:=Aa.1 h;obtain⟨x5,h5,h⟩:=Aa.1 h;injection h with h;subst h;show All2 Dec _ (Za _);simp only[Za,kz];exact .cons (gy h0) (.cons (QX h1) (.cons (qU h2) (.cons (QX h3) (.cons (Mo h4) (.cons (Mt h5) .nil)))))
  ·cases h
 | .st_Vcond_reader,cs,x,h=>by
  simp only[mC]at h;split at h
  ·obtain⟨x0,h0,h⟩:=Aa.1 h;injection h with h;subst h;exact .cons (Mt h0) .nil
  ·cases h
 | .st_Vglue_start,cs,x,h=>by
  simp only[mC]at h;split at h
  ·obtain⟨x0,h0,h⟩:=Aa.1 h;obtain⟨x1,h1,h⟩:=Aa.1 h;injection h with h;subst h;exact .cons (qU h0) (.cons (qU h1) .nil)
  ·cases h
 | .st_Vnest_found,cs,x,h=>by
  simp only[mC]at h;split at h
  ·obtain⟨x0,h0,h⟩:=Aa.1 h;obtain⟨x1,h1,h⟩:=Aa.1 h;obtain⟨x2,h2,h⟩:=Aa.1 h;injection h with h;subst h;exact .cons (qU h0) (.cons (qU h1) (.cons (Mo h2) .nil))
  ·cases h
 | .st_Vtoken_scanner,cs,x,h=>by
  simp only[mC]at h;split at h
  ·obtain⟨x0,h0,h⟩:=Aa.1 h;obtain⟨x1,h1,h⟩:=Aa.1 h;injection h with h;subst h;exact .cons (QX h0) (.cons (qU h1) .nil)
  ·cases h
 | .str,cs,x,h=>by
  simp only[mC]at h;split at h
  ·obtain⟨x0,h0,h⟩:=Aa.1 h;injection h with h;subst h;exact .cons (QX h0) .nil
  ·cases h
 | .other,cs,x,h=>by cases h
theorem fe(n:Nat): ∀(c:TC) (x:Ct c),fC n c x=(eC n c x).map (pvE I)
 | .bool,x=>rfl
 | .int_i32,x=>rfl
 | .int_i64,x=>rfl
 | .int_u32,x=>rfl
 | .int_u64,x=>rfl
 | .int_u8,x=>rfl
 | .sl_2,x=>rfl
 | .sl_211,x=>rfl
 | .sl_216,x=>rfl
 | .sl_22,x=>rfl
 | .sl_24,x=>rfl
 | .sl_27,x=>rfl
 | .sl_4,x=>rfl
 | .sl_5,x=>rfl
 | .sl_57,x=>rfl
 | .sl_59,x=>rfl
 | .sl_9,x=>rfl
 | .st_VArr12_str,x=>rfl
 | .st_VArr2_i64,x=>rfl
 | .st_VCond,(x:zh)=>by obtain⟨x_kind,x_name,x_num,x_decl,x_list⟩:=x;show zq _=_;simp only[zq,Uz];rfl
 | .st_VDecl,x=>rfl
 | .st_VEnv,x=>rfl
 | .st_VToken,x=>rfl
 | .st_VValue,(x:ze)=>by obtain⟨x_token,x_list⟩:=x;show Za _=_;simp only[Za,kz];rfl
 | .st_Vcond_reader,x=>rfl
 | .st_Vglue_start,x=>rfl
 | .st_Vnest_found,x=>rfl
 | .st_Vtoken_scanner,x=>rfl
 | .str,x=>rfl
 | .other,x=>by show List.replicate n (PV.at (Value.slice none 0 0))=(List.replicate n EV.nil).map (pvE I);rw[List.map_replicate];rfl
theorem zCi(n:Nat)(c:TC)(x:Ct c)(h:c≠ .other->n=size c):(eC n c x).length=n:=by
 cases c
 case other=>simp[eC]
 all_goals (rw[h (by simp)];rfl)
theorem zBq(n:Nat): ∀(c:TC) (x:Ct c),(eC n c x).all (oh (I:=I))=true
 | .bool,x=>rfl
 | .int_i32,x=>rfl
 | .int_i64,x=>rfl
 | .int_u32,x=>rfl
 | .int_u64,x=>rfl
 | .int_u8,x=>rfl
 | .sl_2,x=>rfl
 | .sl_211,x=>rfl
 | .sl_216,x=>rfl
 | .sl_22,x=>rfl
 | .sl_24,x=>rfl
 | .sl_27,x=>rfl
 | .sl_4,x=>rfl
 | .sl_5,x=>rfl
 | .sl_57,x=>rfl
 | .sl_59,x=>rfl
 | .sl_9,x=>rfl
 | .st_VArr12_str,x=>rfl
 | .st_VArr2_i64,x=>rfl
 | .st_VCond,x=>rfl
 | .st_VDecl,x=>rfl
 | .st_VEnv,x=>rfl
 | .st_VToken,x=>rfl
 | .st_VValue,x=>rfl
 | .st_Vcond_reader,x=>rfl
 | .st_Vglue_start,x=>rfl
 | .st_Vnest_found,x=>rfl
 | .st_Vtoken_scanner,x=>rfl
 | .str,x=>rfl
 | .other,x=>by show(List.replicate n EV.nil).all (oh (I:=I))=true;rw[Cb];intro v hv;rw[(List.mem_replicate.1 hv).2];rfl
theorem zCU:(tab.all fun p=>match p.2 with| .int_u8=>(match kdOf Tryz.prog p.1 with| .int .u8=>true|_=>false)|_=>true)=true:=by kernel_rfl
theorem zC7(t:Nat)(h:tc t= .int_u8):kdOf Tryz.prog t= .int .u8:=by
 unfold tc at h;cases hl:lk tab t with
 |none=>rw[hl]at h;cases h
 |some c=>
  rw[hl]at h;have h:c= .int_u8:=h;subst h;have:=Cb.1 zCU _ (Pf hl);simp only at this;split at this
  ·assumption
  ·cases this
theorem zA8(n:Nat): ∀(c:TC) (p:(List UInt8->List (Ct c))×(List (Ct c)->List UInt8)),bC c=some p->(∀l,(p.1 l).map (fC n c)=l.map fun b=>[PV.at (.int .u8 b.toNat)])/\(∀l,l.map (fC n c)=(p.2 l).map fun b=>[PV.at (.int .u8 b.toNat)])/\c= .int_u8:=by
 intro c p h;cases c
 case int_u8=>cases h;exact⟨fun l=>rfl,fun l=>rfl,rfl⟩
 all_goals cases h
theorem zCg(t:Nat)(p:(List UInt8->List (I.C t))×(List (I.C t)->List UInt8))(h:I.byt t=some p):(∀l,(p.1 l).map (I.full t)=l.map fun b=>[PV.at (.int .u8 b.toNat)])/\(∀l,l.map (I.full t)=(p.2 l).map fun b=>[PV.at (.int .u8 b.toNat)])/\kdOf Tryz.prog t= .int .u8:=by obtain⟨h1,h2,h3⟩:=zA8 (Tryz.prog.cellsOf t) (tc t) p h;exact⟨h1,h2,zC7 t h3⟩
theorem ipOK:IpOK Tryz.prog I where
 len:=fun t x=>by show(fC _ _ x).length=_;exact(congrArg List.length (fe _ (tc t) x)).trans ((Ra ..).trans (zCi _ (tc t) x (eT t)))
 exp:=fun t x=>fe _ _ x
 pur:=fun t x v hv=>Cb.1 (zBq _ _ x) v hv
 made:=fun t cs x h=>decs (zBM _ _ cs x h)
 byt:=zCg
noncomputable def T:TT:=[(2,ti Tryz.prog 2),(3,ti Tryz.prog 3),(4,ti Tryz.prog 4),(5,ti Tryz.prog 5),(9,ti Tryz.prog 9),(12,ti Tryz.prog 12),(21,ti Tryz.prog 21),(22,ti Tryz.prog 22),(24,ti Tryz.prog 24),(25,ti Tryz.prog 25),(27,ti Tryz.prog 27),(29,ti Tryz.prog 29),(30,ti Tryz.prog 30),(32,ti Tryz.prog 32),(33,ti Tryz.prog 33),(52,ti Tryz.prog 52),(57,ti Tryz.prog 57),(59,ti Tryz.prog 59),(62,ti Tryz.prog 62),(75,ti Tryz.prog 75),(79,ti Tryz.prog 79),(83,ti Tryz.prog 83),(85,ti Tryz.prog 85),(87,ti Tryz.prog 87),(111,ti Tryz.prog 111),(114,ti Tryz.prog 114),(119,ti Tryz.prog 119),(121,ti Tryz.prog 121),(133,ti Tryz.prog 133),(138,ti Tryz.prog 138),(172,ti Tryz.prog 172),(177,ti Tryz.prog 177),(189,ti Tryz.prog 189),(206,ti Tryz.prog 206),(208,ti Tryz.prog 208),(211,ti Tryz.prog 211),(216,ti Tryz.prog 216),(220,ti Tryz.prog 220),(230,ti Tryz.prog 230)]
def FK:List (Nat×List Kd):=[(57,[.int .u8, .str, .int .i64, .str, .bool])]
theorem tok:TOK Tryz.prog T FK:=iA (l:=[2,3,4,5,9,12,21,22,24,25,27,29,30,32,33,52,57,59,62,75,79,83,85,87,111,114,119,121,133,138,172,177,189,206,208,211,216,220,230]) (by
 intro p hp;simp only[FK,Ua,Ed,yf]at hp;rcases hp with rfl<;>kernel_rfl)
theorem mixed:Tryz.prog.follows .mixedOrders=true:=by kernel_rfl
noncomputable def body(f:Go.Func):Code:=match f.body with|some c=>c|none=> .skip
noncomputable def rsl(f:Go.Func):List ResultVar:=f.results.toList
end Go.Lv.VT
