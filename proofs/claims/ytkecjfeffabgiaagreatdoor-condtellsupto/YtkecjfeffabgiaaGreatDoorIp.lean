/- What stands for the values of types. -/
import Derived.Test.YtkecjfeffabgiaaGreatDoorProg
import Derived.Test.YtkecjfeffabgiaaGreatDoorLf
import Derived.Test.YtkecjfeffabgiaaGreatDoorTy
import Derived.KernelRfl
set_option linter.unusedSimpArgs false
set_option linter.unusedVariables false
namespace Go.Lv.VT
set_option maxRecDepth 100000
open Go.Proofs
inductive TC where
 |bool|int_i32|int_i64|int_u32|int_u64|int_u8|sl_2|sl_211|sl_216|sl_24|sl_27|sl_4|sl_5|sl_57|sl_59|sl_9|st_VArr12_str|st_VArr2_i64|st_VCond|st_VDecl|st_VEnv|st_VToken|st_VValue|st_Vglue_start|st_Vnest_found|st_Vtoken_scanner|str|other
def Ct:TC->Type
 | .bool=>Bool| .int_i32=>Int| .int_i64=>Int| .int_u32=>Int| .int_u64=>Int| .int_u8=>UInt8| .sl_2=>List Int| .sl_211=>List zR| .sl_216=>List ZC| .sl_24=>List z8| .sl_27=>List zg| .sl_4=>List Bool| .sl_5=>List UInt8| .sl_57=>List ze| .sl_59=>List zh| .sl_9=>List Str| .st_VArr12_str=>zaT| .st_VArr2_i64=>ZC| .st_VCond=>zg| .st_VDecl=>z8| .st_VEnv=>VEnv| .st_VToken=>ze| .st_VValue=>zh| .st_Vglue_start=>zR| .st_Vnest_found=>Ze| .st_Vtoken_scanner=>zb| .str=>Str| .other=>Unit
def tab:List (Nat×TC):=[(2, .int_i64),(3, .int_i64),(4, .bool),(5, .int_u8),(9, .str),(12, .int_u64),(21, .int_i32),(22, .sl_59),(24, .st_VDecl),(25, .sl_27),(27, .st_VCond),(29, .st_VEnv),(30, .sl_4),(32, .sl_24),(33, .int_i64),(52, .sl_9),(57, .st_VToken),(59, .st_VValue),(62, .sl_57),(111, .st_Vnest_found),(121, .st_Vtoken_scanner),(133, .sl_5),(172, .sl_2),(177, .sl_216),(189, .int_u32),(206, .int_u64),(208, .sl_211),(211, .st_Vglue_start),(216, .st_VArr2_i64),(220, .int_u64),(230, .st_VArr12_str)]
def tc(t:Nat):TC:=match lk tab t with|some c=>c|none=> .other
def Cn(t:Nat):Type:=Ct (tc t)
def dC:(c:TC)->Ct c
 | .bool=>(default:Bool)| .int_i32=>(default:Int)| .int_i64=>(default:Int)| .int_u32=>(default:Int)| .int_u64=>(default:Int)| .int_u8=>(default:UInt8)| .sl_2=>(default:List Int)| .sl_211=>(default:List zR)| .sl_216=>(default:List ZC)| .sl_24=>(default:List z8)| .sl_27=>(default:List zg)| .sl_4=>(default:List Bool)| .sl_5=>(default:List UInt8)| .sl_57=>(default:List ze)| .sl_59=>(default:List zh)| .sl_9=>(default:List Str)| .st_VArr12_str=>(default:zaT)| .st_VArr2_i64=>(default:ZC)| .st_VCond=>(default:zg)| .st_VDecl=>(default:z8)| .st_VEnv=>(default:VEnv)| .st_VToken=>(default:ze)| .st_VValue=>(default:zh)| .st_Vglue_start=>(default:zR)| .st_Vnest_found=>(default:Ze)| .st_Vtoken_scanner=>(default:zb)| .str=>(default:Str)| .other=>()
def size:TC->Nat
 | .st_VArr12_str=>12| .st_VArr2_i64=>2| .st_VCond=>7| .st_VDecl=>3| .st_VToken=>5| .st_VValue=>6| .st_Vglue_start=>2| .st_Vnest_found=>3| .st_Vtoken_scanner=>2|_=>1
def zqt(x:zaT):List PV:=[.str x.e0, .str x.e1, .str x.e2, .str x.e3, .str x.e4, .str x.e5, .str x.e6, .str x.e7, .str x.e8, .str x.e9, .str x.e10, .str x.e11]
def wW(x:ZC):List PV:=[.at (.int .i64 x.e0), .at (.int .i64 x.e1)]
def vT(x:ze):List PV:=[.at (.int .u8 x.kind), .str x.text, .at (.int .i64 x.num), .str x.unit, .at (.bool x.flag)]
mutual
def Zt:zh->List PV
 |⟨x_token,x_list⟩=>[.at (.int .u8 x_token.kind), .str x_token.text, .at (.int .i64 x_token.num), .str x_token.unit, .at (.bool x_token.flag), .sl (vz x_list)]
def vz:List zh->List (List PV)
 |[]=>[]
 |v::r=>Zt v::vz r
end
theorem jG: ∀(l:List zh),vz l=l.map Zt
 |[]=>by rw[vz];rfl
 |v::r=>by rw[vz,jG r];rfl
def QW(x:z8):List PV:=[.str x.name, .sl (x.value.map Zt), .at (.bool x.important)]
mutual
def zn:zg->List PV
 |⟨x_kind,x_name,x_num,x_decl,x_list⟩=>[.at (.int .u8 x_kind), .str x_name, .at (.int .i64 x_num), .str x_decl.name, .sl (x_decl.value.map Zt), .at (.bool x_decl.important), .sl (gz x_list)]
def gz:List zg->List (List PV)
 |[]=>[]
 |v::r=>zn v::gz r
end
theorem UG: ∀(l:List zg),gz l=l.map zn
 |[]=>by rw[gz];rfl
 |v::r=>by rw[gz,UG r];rfl
def PE(x:VEnv):List PV:=[.at (.int .i64 x.width)]
def NY(x:zR):List PV:=[.at (.int .i64 x.token), .at (.int .i64 x.at_)]
def zoT(x:Ze):List PV:=[.at (.int .i64 x.depth), .at (.int .i64 x.tokens), .at (.bool x.bad)]
def zk8(x:zb):List PV:=[.str x.s, .at (.int .i64 x.at_)]
theorem vW(x_token:ze)(x_list:List zh):Zt ⟨x_token,x_list⟩=[.at (.int .u8 x_token.kind), .str x_token.text, .at (.int .i64 x_token.num), .str x_token.unit, .at (.bool x_token.flag), .sl (x_list.map Zt)]:=by simp only[Zt,jG]
theorem NV(x_kind:Int)(x_name:Str)(x_num:Int)(x_decl:z8)(x_list:List zg):zn ⟨x_kind,x_name,x_num,x_decl,x_list⟩=[.at (.int .u8 x_kind), .str x_name, .at (.int .i64 x_num), .str x_decl.name, .sl (x_decl.value.map Zt), .at (.bool x_decl.important), .sl (x_list.map zn)]:=by simp only[zn,UG]
theorem zqu(x:zh):Zt x=[.at (.int .u8 x.token.kind), .str x.token.text, .at (.int .i64 x.token.num), .str x.token.unit, .at (.bool x.token.flag), .sl (x.list.map Zt)]:=by cases x;exact vW ..
theorem zsp(x:zg):zn x=[.at (.int .u8 x.kind), .str x.name, .at (.int .i64 x.num), .str x.decl.name, .sl (x.decl.value.map Zt), .at (.bool x.decl.important), .sl (x.list.map zn)]:=by cases x;exact NV ..
def fC(n:Nat):(c:TC)->Ct c->List PV
 | .bool,(x:Bool)=>[.at (.bool x)]
 | .int_i32,(x:Int)=>[.at (.int .i32 x)]
 | .int_i64,(x:Int)=>[.at (.int .i64 x)]
 | .int_u32,(x:Int)=>[.at (.int .u32 x)]
 | .int_u64,(x:Int)=>[.at (.int .u64 x)]
 | .int_u8,(x:UInt8)=>[.at (.int .u8 x.toNat)]
 | .sl_2,(x:List Int)=>[.sl (x.map (fun y=>[.at (.int .i64 y)]))]
 | .sl_211,(x:List zR)=>[.sl (x.map NY)]
 | .sl_216,(x:List ZC)=>[.sl (x.map wW)]
 | .sl_24,(x:List z8)=>[.sl (x.map QW)]
 | .sl_27,(x:List zg)=>[.sl (x.map zn)]
 | .sl_4,(x:List Bool)=>[.sl (x.map (fun y=>[.at (.bool y)]))]
 | .sl_5,(x:List UInt8)=>[.sl (x.map (fun y=>[.at (.int .u8 y.toNat)]))]
 | .sl_57,(x:List ze)=>[.sl (x.map vT)]
 | .sl_59,(x:List zh)=>[.sl (x.map Zt)]
 | .sl_9,(x:List Str)=>[.sl (x.map (fun y=>[.str y]))]
 | .st_VArr12_str,(x:zaT)=>zqt x
 | .st_VArr2_i64,(x:ZC)=>wW x
 | .st_VCond,(x:zg)=>zn x
 | .st_VDecl,(x:z8)=>QW x
 | .st_VEnv,(x:VEnv)=>PE x
 | .st_VToken,(x:ze)=>vT x
 | .st_VValue,(x:zh)=>Zt x
 | .st_Vglue_start,(x:zR)=>NY x
 | .st_Vnest_found,(x:Ze)=>zoT x
 | .st_Vtoken_scanner,(x:zb)=>zk8 x
 | .str,(x:Str)=>[.str x]
 | .other,_=>List.replicate n (.at (.slice none 0 0))
def eC(n:Nat):(c:TC)->Ct c->List (EV Cn)
 | .bool,(x:Bool)=>[.bool x]
 | .int_i32,(x:Int)=>[.int .i32 x]
 | .int_i64,(x:Int)=>[.int .i64 x]
 | .int_u32,(x:Int)=>[.int .u32 x]
 | .int_u64,(x:Int)=>[.int .u64 x]
 | .int_u8,(x:UInt8)=>[.int .u8 (x.toNat:Int)]
 | .sl_2,(x:List Int)=>[.sl 2 x]
 | .sl_211,(x:List zR)=>[.sl 211 x]
 | .sl_216,(x:List ZC)=>[.sl 216 x]
 | .sl_24,(x:List z8)=>[.sl 24 x]
 | .sl_27,(x:List zg)=>[.sl 27 x]
 | .sl_4,(x:List Bool)=>[.sl 4 x]
 | .sl_5,(x:List UInt8)=>[.sl 5 x]
 | .sl_57,(x:List ze)=>[.sl 57 x]
 | .sl_59,(x:List zh)=>[.sl 59 x]
 | .sl_9,(x:List Str)=>[.sl 9 x]
 | .st_VArr12_str,(x:zaT)=>[.str x.e0, .str x.e1, .str x.e2, .str x.e3, .str x.e4, .str x.e5, .str x.e6, .str x.e7, .str x.e8, .str x.e9, .str x.e10, .str x.e11]
 | .st_VArr2_i64,(x:ZC)=>[.int .i64 x.e0, .int .i64 x.e1]
 | .st_VCond,(x:zg)=>[.int .u8 x.kind, .str x.name, .int .i64 x.num, .str x.decl.name, .sl 59 x.decl.value, .bool x.decl.important, .sl 27 x.list]
 | .st_VDecl,(x:z8)=>[.str x.name, .sl 59 x.value, .bool x.important]
 | .st_VEnv,(x:VEnv)=>[.int .i64 x.width]
 | .st_VToken,(x:ze)=>[.int .u8 x.kind, .str x.text, .int .i64 x.num, .str x.unit, .bool x.flag]
 | .st_VValue,(x:zh)=>[.int .u8 x.token.kind, .str x.token.text, .int .i64 x.token.num, .str x.token.unit, .bool x.token.flag, .sl 59 x.list]
 | .st_Vglue_start,(x:zR)=>[.int .i64 x.token, .int .i64 x.at_]
 | .st_Vnest_found,(x:Ze)=>[.int .i64 x.depth, .int .i64 x.tokens, .bool x.bad]
 | .st_Vtoken_scanner,(x:zb)=>[.str x.s, .int .i64 x.at_]
 | .str,(x:Str)=>[.str x]
 | .other,_=>List.replicate n .nil
def gJ:EV Cn->Option Int
 | .int .i32 n=>some n
 |_=>none
def ni:EV Cn->Option Int
 | .int .i64 n=>some n
 |_=>none
def fJ:EV Cn->Option Int
 | .int .u32 n=>some n
 |_=>none
def dJ:EV Cn->Option Int
 | .int .u64 n=>some n
 |_=>none
def Ju:EV Cn->Option Int
 | .int .u8 n=>some n
 |_=>none
def Wn:EV Cn->Option Bool
 | .bool b=>some b
 |_=>none
def dStr:EV Cn->Option Str
 | .str l=>some l
 |_=>none
def AO:EV Cn->Option (List Int)
 | .nil=>some []
 | .sl 2 l=>some l
 |_=>none
def yN:EV Cn->Option (List Bool)
 | .nil=>some []
 | .sl 4 l=>some l
 |_=>none
def xN:EV Cn->Option (List UInt8)
 | .nil=>some []
 | .sl 5 l=>some l
 |_=>none
def bN:EV Cn->Option (List Str)
 | .nil=>some []
 | .sl 9 l=>some l
 |_=>none
def yO:EV Cn->Option (List z8)
 | .nil=>some []
 | .sl 24 l=>some l
 |_=>none
def XC:EV Cn->Option (List zg)
 | .nil=>some []
 | .sl 27 l=>some l
 |_=>none
def xO:EV Cn->Option (List ze)
 | .nil=>some []
 | .sl 57 l=>some l
 |_=>none
def Ht:EV Cn->Option (List zh)
 | .nil=>some []
 | .sl 59 l=>some l
 |_=>none
def gI:EV Cn->Option (List zR)
 | .nil=>some []
 | .sl 211 l=>some l
 |_=>none
def fI:EV Cn->Option (List ZC)
 | .nil=>some []
 | .sl 216 l=>some l
 |_=>none
def mC:(c:TC)->List (EV Cn)->Option (Ct c)
 | .bool=>fun cs=>match cs with|[a0]=>(Wn a0).bind fun x0=>some x0|_=>none
 | .int_i32=>fun cs=>match cs with|[a0]=>(gJ a0).bind fun x0=>some x0|_=>none
 | .int_i64=>fun cs=>match cs with|[a0]=>(ni a0).bind fun x0=>some x0|_=>none
 | .int_u32=>fun cs=>match cs with|[a0]=>(fJ a0).bind fun x0=>some x0|_=>none
 | .int_u64=>fun cs=>match cs with|[a0]=>(dJ a0).bind fun x0=>some x0|_=>none
 | .int_u8=>fun cs=>match cs with|[a0]=>(Ju a0).bind qb|_=>none
 | .sl_2=>fun cs=>match cs with|[a0]=>(AO a0).bind fun x0=>some x0|_=>none
 | .sl_211=>fun cs=>match cs with|[a0]=>(gI a0).bind fun x0=>some x0|_=>none
 | .sl_216=>fun cs=>match cs with|[a0]=>(fI a0).bind fun x0=>some x0|_=>none
 | .sl_24=>fun cs=>match cs with|[a0]=>(yO a0).bind fun x0=>some x0|_=>none
 | .sl_27=>fun cs=>match cs with|[a0]=>(XC a0).bind fun x0=>some x0|_=>none
 | .sl_4=>fun cs=>match cs with|[a0]=>(yN a0).bind fun x0=>some x0|_=>none
 | .sl_5=>fun cs=>match cs with|[a0]=>(xN a0).bind fun x0=>some x0|_=>none
 | .sl_57=>fun cs=>match cs with|[a0]=>(xO a0).bind fun x0=>some x0|_=>none
 | .sl_59=>fun cs=>match cs with|[a0]=>(Ht a0).bind fun x0=>some x0|_=>none
 | .sl_9=>fun cs=>match cs with|[a0]=>(bN a0).bind fun x0=>some x0|_=>none
 | .st_VArr12_str=>fun cs=>match cs with|[a0,a1,a2,a3,a4,a5,a6,a7,a8,a9,a10,a11]=>(dStr a0).bind fun x0=>(dStr a1).bind fun x1=>(dStr a2).bind fun x2=>(dStr a3).bind fun x3=>(dStr a4).bind fun x4=>(dStr a5).bind fun x5=>(dStr a6).bind fun x6=>(dStr a7).bind fun x7=>(dStr a8).bind fun x8=>(dStr a9).bind fun x9=>(dStr a10).bind fun x10=>(dStr a11).bind fun x11=>some (⟨x0,x1,x2,x3,x4,x5,x6,x7,x8,x9,x10,x11⟩:zaT)|_=>none
 | .st_VArr2_i64=>fun cs=>match cs with|[a0,a1]=>(ni a0).bind fun x0=>(ni a1).bind fun x1=>some (⟨x0,x1⟩:ZC)|_=>none
 | .st_VCond=>fun cs=>match cs with|[a0,a1,a2,a3,a4,a5,a6]=>(Ju a0).bind fun x0=>(dStr a1).bind fun x1=>(ni a2).bind fun x2=>(dStr a3).bind fun x3=>(Ht a4).bind fun x4=>(Wn a5).bind fun x5=>(XC a6).bind fun x6=>some (⟨x0,x1,x2,(⟨x3,x4,x5⟩:z8),x6⟩:zg)|_=>none
 | .st_VDecl=>fun cs=>match cs with|[a0,a1,a2]=>(dStr a0).bind fun x0=>(Ht a1).bind fun x1=>(Wn a2).bind fun x2=>some (⟨x0,x1,x2⟩:z8)|_=>none
 | .st_VEnv=>fun cs=>match cs with|[a0]=>(ni a0).bind fun x0=>some (⟨x0⟩:VEnv)|_=>none
 | .st_VToken=>fun cs=>match cs with|[a0,a1,a2,a3,a4]=>(Ju a0).bind fun x0=>(dStr a1).bind fun x1=>(ni a2).bind fun x2=>(dStr a3).bind fun x3=>(Wn a4).bind fun x4=>some (⟨x0,x1,x2,x3,x4⟩:ze)|_=>none
 | .st_VValue=>fun cs=>match cs with|[a0,a1,a2,a3,a4,a5]=>(Ju a0).bind fun x0=>(dStr a1).bind fun x1=>(ni a2).bind fun x2=>(dStr a3).bind fun x3=>(Wn a4).bind fun x4=>(Ht a5).bind fun x5=>some (⟨(⟨x0,x1,x2,x3,x4⟩:ze),x5⟩:zh)|_=>none
 | .st_Vglue_start=>fun cs=>match cs with|[a0,a1]=>(ni a0).bind fun x0=>(ni a1).bind fun x1=>some (⟨x0,x1⟩:zR)|_=>none
 | .st_Vnest_found=>fun cs=>match cs with|[a0,a1,a2]=>(ni a0).bind fun x0=>(ni a1).bind fun x1=>(Wn a2).bind fun x2=>some (⟨x0,x1,x2⟩:Ze)|_=>none
 | .st_Vtoken_scanner=>fun cs=>match cs with|[a0,a1]=>(dStr a0).bind fun x0=>(ni a1).bind fun x1=>some (⟨x0,x1⟩:zb)|_=>none
 | .str=>fun cs=>match cs with|[a0]=>(dStr a0).bind fun x0=>some x0|_=>none
 | .other=>fun _=>none
def bC:(c:TC)->Option ((List UInt8->List (Ct c))×(List (Ct c)->List UInt8))
 | .int_u8=>some (fun l=>l,fun l=>l)
 |_=>none
noncomputable def I:Ip:=⟨Cn,fun t=>dC (tc t),fun t=>eC (Tryz.prog.cellsOf t) (tc t),fun t=>mC (tc t),fun t=>fC (Tryz.prog.cellsOf t) (tc t),fun t=>bC (tc t)⟩
theorem zJ8:(tab.all fun p=>Nat.beq (Tryz.prog.cellsOf p.1) (size p.2))=true:=by kernel_rfl
theorem zEa(t:Nat)(h:tc t≠ .other):Tryz.prog.cellsOf t=size (tc t):=by
 unfold tc at h ⊢;cases hl:lk tab t with
 |none=>rw[hl]at h;exact absurd rfl h
 |some c=> simp only;exact Ya (Ab.1 zJ8 _ (Gh hl))
def Dec(a:EV Cn)(p:PV):Prop:=Dk (I:=I) a=true/\WkP (pvE I a) p
theorem decs{cs:List (EV Cn)}{ps:List PV}(h:All2 Dec cs ps):(∀v∈cs,Dk (I:=I) v=true)/\cs.length=ps.length/\ ∀(j:Nat) (a b:PV),(cs.map (pvE I))[j]? =some a->ps[j]? =some b->WkP a b:=by
 induction h with
 |nil=>exact⟨fun v hv=>(by cases hv),rfl,fun j a b ha=>(by cases ha)⟩
 |cons h1 _ ih=>
  refine⟨fun v hv=> ?_,congrArg Nat.succ ih.2.1,fun j a b ha hb=> ?_⟩
  ·rcases Rb.1 hv with rfl|hv
   ·exact h1.1
   ·exact ih.1 v hv
  ·cases j with
   |zero=>injection ha with ha;injection hb with hb;rw[<-ha,<-hb];exact h1.2
   |succ j=>exact ih.2.2 j a b ha hb
theorem zwR{a:EV Cn}{x:Int}(h:gJ a=some x):Dec a (.at (.int .i32 x)):=by
 unfold gJ at h;split at h
 ·cases h;exact⟨rfl, .refl _⟩
 ·cases h
theorem Qi{a:EV Cn}{x:Int}(h:ni a=some x):Dec a (.at (.int .i64 x)):=by
 unfold ni at h;split at h
 ·cases h;exact⟨rfl, .refl _⟩
 ·cases h
theorem zwS{a:EV Cn}{x:Int}(h:fJ a=some x):Dec a (.at (.int .u32 x)):=by
 unfold fJ at h;split at h
 ·cases h;exact⟨rfl, .refl _⟩
 ·cases h
theorem zwT{a:EV Cn}{x:Int}(h:dJ a=some x):Dec a (.at (.int .u64 x)):=by
 unfold dJ at h;split at h
 ·cases h;exact⟨rfl, .refl _⟩
 ·cases h
theorem eF{a:EV Cn}{x:Int}(h:Ju a=some x):Dec a (.at (.int .u8 x)):=by
 unfold Ju at h;split at h
 ·cases h;exact⟨rfl, .refl _⟩
 ·cases h
theorem ou{a:EV Cn}{x:Bool}(h:Wn a=some x):Dec a (.at (.bool x)):=by
 unfold Wn at h;split at h
 ·cases h;exact⟨rfl, .refl _⟩
 ·cases h
theorem Q9{a:EV Cn}{x:Str}(h:dStr a=some x):Dec a (.str x):=by
 unfold dStr at h;split at h
 ·cases h;exact⟨rfl, .refl _⟩
 ·cases h
theorem zEg{a:EV Cn}{x:List Int}(h:AO a=some x):Dec a (.sl (x.map (I.full 2))):=by
 unfold AO at h;split at h
 ·cases h;exact⟨rfl, .nil⟩
 ·cases h;exact⟨rfl, .refl _⟩
 ·cases h
theorem zEh{a:EV Cn}{x:List Bool}(h:yN a=some x):Dec a (.sl (x.map (I.full 4))):=by
 unfold yN at h;split at h
 ·cases h;exact⟨rfl, .nil⟩
 ·cases h;exact⟨rfl, .refl _⟩
 ·cases h
theorem zEi{a:EV Cn}{x:List UInt8}(h:xN a=some x):Dec a (.sl (x.map (I.full 5))):=by
 unfold xN at h;split at h
 ·cases h;exact⟨rfl, .nil⟩
 ·cases h;exact⟨rfl, .refl _⟩
 ·cases h
theorem zEj{a:EV Cn}{x:List Str}(h:bN a=some x):Dec a (.sl (x.map (I.full 9))):=by
 unfold bN at h;split at h
 ·cases h;exact⟨rfl, .nil⟩
 ·cases h;exact⟨rfl, .refl _⟩
 ·cases h
theorem zBc{a:EV Cn}{x:List z8}(h:yO a=some x):Dec a (.sl (x.map (I.full 24))):=by
 unfold yO at h;split at h
 ·cases h;exact⟨rfl, .nil⟩
 ·cases h;exact⟨rfl, .refl _⟩
 ·cases h
theorem kS{a:EV Cn}{x:List zg}(h:XC a=some x):Dec a (.sl (x.map (I.full 27))):=by
 unfold XC at h;split at h
 ·cases h;exact⟨rfl, .nil⟩
 ·cases h;exact⟨rfl, .refl _⟩
 ·cases h
theorem zBe{a:EV Cn}{x:List ze}(h:xO a=some x):Dec a (.sl (x.map (I.full 57))):=by
 unfold xO at h;split at h
 ·cases h;exact⟨rfl, .nil⟩
 ·cases h;exact⟨rfl, .refl _⟩
 ·cases h
theorem UF{a:EV Cn}{x:List zh}(h:Ht a=some x):Dec a (.sl (x.map (I.full 59))):=by
 unfold Ht at h;split at h
 ·cases h;exact⟨rfl, .nil⟩
 ·cases h;exact⟨rfl, .refl _⟩
 ·cases h
theorem p9{a:EV Cn}{x:List zR}(h:gI a=some x):Dec a (.sl (x.map (I.full 211))):=by
 unfold gI at h;split at h
 ·cases h;exact⟨rfl, .nil⟩
 ·cases h;exact⟨rfl, .refl _⟩
 ·cases h
theorem l9{a:EV Cn}{x:List ZC}(h:fI a=some x):Dec a (.sl (x.map (I.full 216))):=by
 unfold fI at h;split at h
 ·cases h;exact⟨rfl, .nil⟩
 ·cases h;exact⟨rfl, .refl _⟩
 ·cases h
theorem zHN(n:Nat): ∀(c:TC) (cs:List (EV Cn)) (x:Ct c),mC c cs=some x->All2 Dec cs (fC n c x)
 | .bool,cs,x,h=>by
  simp only[mC]at h;split at h
  ·obtain⟨x0,h0,h⟩:=Ha.1 h;injection h with h;subst h;exact .cons (ou h0) .nil
  ·cases h
 | .int_i32,cs,x,h=>by
  simp only[mC]at h;split at h
  ·obtain⟨x0,h0,h⟩:=Ha.1 h;injection h with h;subst h;exact .cons (zwR h0) .nil
  ·cases h
 | .int_i64,cs,x,h=>by
  simp only[mC]at h;split at h
  ·obtain⟨x0,h0,h⟩:=Ha.1 h;injection h with h;subst h;exact .cons (Qi h0) .nil
  ·cases h
 | .int_u32,cs,x,h=>by
  simp only[mC]at h;split at h
  ·obtain⟨x0,h0,h⟩:=Ha.1 h;injection h with h;subst h;exact .cons (zwS h0) .nil
  ·cases h
 | .int_u64,cs,x,h=>by
  simp only[mC]at h;split at h
  ·obtain⟨x0,h0,h⟩:=Ha.1 h;injection h with h;subst h;exact .cons (zwT h0) .nil
  ·cases h
 | .int_u8,cs,x,h=>by
  simp only[mC]at h;split at h
  ·obtain⟨x0,h0,h⟩:=Ha.1 h;have:=zAS h;subst this;exact .cons (eF h0) .nil
  ·cases h
 | .sl_2,cs,x,h=>by
  simp only[mC]at h;split at h
  ·obtain⟨x0,h0,h⟩:=Ha.1 h;injection h with h;subst h;exact .cons (zEg h0) .nil
  ·cases h
 | .sl_211,cs,x,h=>by
  simp only[mC]at h;split at h
  ·obtain⟨x0,h0,h⟩:=Ha.1 h;injection h with h;subst h;exact .cons (p9 h0) .nil
  ·cases h
 | .sl_216,cs,x,h=>by
  simp only[mC]at h;split at h
  ·obtain⟨x0,h0,h⟩:=Ha.1 h;injection h with h;subst h;exact .cons (l9 h0) .nil
  ·cases h
 | .sl_24,cs,x,h=>by
  simp only[mC]at h;split at h
  ·obtain⟨x0,h0,h⟩:=Ha.1 h;injection h with h;subst h;exact .cons (zBc h0) .nil
  ·cases h
 | .sl_27,cs,x,h=>by
  simp only[mC]at h;split at h
  ·obtain⟨x0,h0,h⟩:=Ha.1 h;injection h with h;subst h;exact .cons (kS h0) .nil
  ·cases h
 | .sl_4,cs,x,h=>by
  simp only[mC]at h;split at h
  ·obtain⟨x0,h0,h⟩:=Ha.1 h;injection h with h;subst h;exact .cons (zEh h0) .nil
  ·cases h
 | .sl_5,cs,x,h=>by
  simp only[mC]at h;split at h
  ·obtain⟨x0,h0,h⟩:=Ha.1 h;injection h with h;subst h;exact .cons (zEi h0) .nil
  ·cases h
 | .sl_57,cs,x,h=>by
  simp only[mC]at h;split at h
  ·obtain⟨x0,h0,h⟩:=Ha.1 h;injection h with h;subst h;exact .cons (zBe h0) .nil
  ·cases h
 | .sl_59,cs,x,h=>by
  simp only[mC]at h;split at h
  ·obtain⟨x0,h0,h⟩:=Ha.1 h;injection h with h;subst h;exact .cons (UF h0) .nil
  ·cases h
 | .sl_9,cs,x,h=>by
  simp only[mC]at h;split at h
  ·obtain⟨x0,h0,h⟩:=Ha.1 h;injection h with h;subst h;exact .cons (zEj h0) .nil
  ·cases h
 | .st_VArr12_str,cs,x,h=>by
  simp only[mC]at h;split at h
  ·obtain⟨x0,h0,h⟩:=Ha.1 h;obtain⟨x1,h1,h⟩:=Ha.1 h;obtain⟨x2,h2,h⟩:=Ha.1 h;obtain⟨x3,h3,h⟩:=Ha.1 h;obtain⟨x4,h4,h⟩:=Ha.1 h;obtain⟨x5,h5,h⟩:=Ha.1 h;obtain⟨x6,h6,h⟩:=Ha.1 h;obtain⟨x7,h7,h⟩:=Ha.1 h;obtain⟨x8,h8,h⟩:=Ha.1 h;obtain⟨x9,h9,h⟩:=Ha.1 h;obtain⟨x10,h10,h⟩:=Ha.1 h;obtain⟨x11,h11,h⟩:=Ha.1 h;injection h with h;subst h;exact .cons (Q9 h0) (.cons (Q9 h1) (.cons (Q9 h2) (.cons (Q9 h3) (.cons (Q9 h4) (.cons (Q9 h5) (.cons (Q9 h6) (.cons (Q9 h7) (.cons (Q9 h8) (.cons (Q9 h9) (.cons (Q9 h10) (.cons (Q9 h11) .nil)))))))))))
  ·cases h
 | .st_VArr2_i64,cs,x,h=>by
  simp only[mC]at h;split at h
  ·obtain⟨x0,h0,h⟩:=Ha.1 h;obtain⟨x1,h1,h⟩:=Ha.1 h;injection h with h;subst h;exact .cons (Qi h0) (.cons (Qi h1) .nil)
  ·cases h
 | .st_VCond,cs,x,h=>by
  simp only[mC]at h;split at h
  ·obtain⟨x0,h0,h⟩:=Ha.1 h;obtain⟨x1,h1,h⟩:=Ha.1 h;obtain⟨x2,h2,h⟩:=Ha.1 h;obtain⟨x3,h3,h⟩:=Ha.1 h;obtain⟨x4,h4,h⟩:=Ha.1 h;obtain⟨x5,h5,h⟩:=Ha.1 h;obtain⟨x6,h6,h⟩:=Ha.1 h;injection h with h;subst h;show All2 Dec _ (zn _);simp only[zn,UG];exact .cons (eF h0) (.cons (Q9 h1) (.cons (Qi h2) (.cons (Q9 h3) (.cons (UF h4) (.cons (ou h5) (.cons (kS h6) .nil))))))
  ·cases h
 | .st_VDecl,cs,x,h=>by
  simp only[mC]at h;split at h
  ·obtain⟨x0,h0,h⟩:=Ha.1 h;obtain⟨x1,h1,h⟩:=Ha.1 h;obtain⟨x2,h2,h⟩:=Ha.1 h;injection h with h;subst h;exact .cons (Q9 h0) (.cons (UF h1) (.cons (ou h2) .nil))
  ·cases h
 | .st_VEnv,cs,x,h=>by
  simp only[mC]at h;split at h
  ·obtain⟨x0,h0,h⟩:=Ha.1 h;injection h with h;subst h;exact .cons (Qi h0) .nil
  ·cases h
 | .st_VToken,cs,x,h=>by
  simp only[mC]at h;split at h
  ·obtain⟨x0,h0,h⟩:=Ha.1 h;obtain⟨x1,h1,h⟩:=Ha.1 h;obtain⟨x2,h2,h⟩:=Ha.1 h;obtain⟨x3,h3,h⟩:=Ha.1 h;obtain⟨x4,h4,h⟩:=Ha.1 h;injection h with h;subst h;exact .cons (eF h0) (.cons (Q9 h1) (.cons (Qi h2) (.cons (Q9 h3) (.cons (ou h4) .nil))))
  ·cases h
 | .st_VValue,cs,x,h=>by
  simp only[mC]at h;split at h
  ·obtain⟨x0,h0,h⟩:=Ha.1 h;obtain⟨x1,h1,h⟩:=Ha.1 h;obtain⟨x2,h2,h⟩:=Ha.1 h;obtain⟨x3,h3,h⟩:=Ha.1 h;obtain⟨x4,h4,h⟩:=Ha.1 h;obtain⟨x5,h5,h⟩:=Ha.1 h;injection h with h;subst h;show All2 Dec _ (Zt _);simp only[Zt,jG];exact .cons (eF h0) (.cons (Q9 h1) (.cons (Qi h2) (.cons (Q9 h3) (.cons (ou h4) (.cons (UF h5) .nil)))))
  ·cases h
 | .st_Vglue_start,cs,x,h=>by
  simp only[mC]at h;split at h
  ·obtain⟨x0,h0,h⟩:=Ha.1 h;obtain⟨x1,h1,h⟩:=Ha.1 h;injection h with h;subst h;exact .cons (Qi h0) (.cons (Qi h1) .nil)
  ·cases h
 | .st_Vnest_found,cs,x,h=>by
  simp only[mC]at h;split at h
  ·obtain⟨x0,h0,h⟩:=Ha.1 h;obtain⟨x1,h1,h⟩:=Ha.1 h;obtain⟨x2,h2,h⟩:=Ha.1 h;injection h with h;subst h;exact .cons (Qi h0) (.cons (Qi h1) (.cons (ou h2) .nil))
  ·cases h
 | .st_Vtoken_scanner,cs,x,h=>by
  simp only[mC]at h;split at h
  ·obtain⟨x0,h0,h⟩:=Ha.1 h;obtain⟨x1,h1,h⟩:=Ha.1 h;injection h with h;subst h;exact .cons (Q9 h0) (.cons (Qi h1) .nil)
  ·cases h
 | .str,cs,x,h=>by
  simp only[mC]at h;split at h
  ·obtain⟨x0,h0,h⟩:=Ha.1 h;injection h with h;subst h;exact .cons (Q9 h0) .nil
  ·cases h
 | .other,cs,x,h=>by cases h
theorem fe(n:Nat): ∀(c:TC) (x:Ct c),fC n c x=(eC n c x).map (pvE I)
 | .bool,x=>rfl
 | .int_i32,x=>rfl
 | .int_i64,x=>rfl
 | .int_u32,x=>rfl
 | .int_u64,x=>rfl
 | .int_u8,x=>rfl
 | .sl_2,x=>rfl
 | .sl_211,x=>rfl
 | .sl_216,x=>rfl
 | .sl_24,x=>rfl
 | .sl_27,x=>rfl
 | .sl_4,x=>rfl
 | .sl_5,x=>rfl
 | .sl_57,x=>rfl
 | .sl_59,x=>rfl
 | .sl_9,x=>rfl
 | .st_VArr12_str,x=>rfl
 | .st_VArr2_i64,x=>rfl
 | .st_VCond,(x:zg)=>by obtain⟨x_kind,x_name,x_num,x_decl,x_list⟩:=x;show zn _=_;simp only[zn,UG];rfl
 | .st_VDecl,x=>rfl
 | .st_VEnv,x=>rfl
 | .st_VToken,x=>rfl
 | .st_VValue,(x:zh)=>by obtain⟨x_token,x_list⟩:=x;show Zt _=_;simp only[Zt,jG];rfl
 | .st_Vglue_start,x=>rfl
 | .st_Vnest_found,x=>rfl
 | .st_Vtoken_scanner,x=>rfl
 | .str,x=>rfl
 | .other,x=>by show List.replicate n (PV.at (Value.slice none 0 0))=(List.replicate n EV.nil).map (pvE I);rw[List.map_replicate];rfl
theorem zI5(n:Nat)(c:TC)(x:Ct c)(h:c≠ .other->n=size c):(eC n c x).length=n:=by
 cases c
 case other=>simp[eC]
 all_goals (rw[h (by simp)];rfl)
theorem zHh(n:Nat): ∀(c:TC) (x:Ct c),(eC n c x).all (Dk (I:=I))=true
 | .bool,x=>rfl
 | .int_i32,x=>rfl
 | .int_i64,x=>rfl
 | .int_u32,x=>rfl
 | .int_u64,x=>rfl
 | .int_u8,x=>rfl
 | .sl_2,x=>rfl
 | .sl_211,x=>rfl
 | .sl_216,x=>rfl
 | .sl_24,x=>rfl
 | .sl_27,x=>rfl
 | .sl_4,x=>rfl
 | .sl_5,x=>rfl
 | .sl_57,x=>rfl
 | .sl_59,x=>rfl
 | .sl_9,x=>rfl
 | .st_VArr12_str,x=>rfl
 | .st_VArr2_i64,x=>rfl
 | .st_VCond,x=>rfl
 | .st_VDecl,x=>rfl
 | .st_VEnv,x=>rfl
 | .st_VToken,x=>rfl
 | .st_VValue,x=>rfl
 | .st_Vglue_start,x=>rfl
 | .st_Vnest_found,x=>rfl
 | .st_Vtoken_scanner,x=>rfl
 | .str,x=>rfl
 | .other,x=>by show(List.replicate n EV.nil).all (Dk (I:=I))=true;rw[Ab];intro v hv;rw[(List.mem_replicate.1 hv).2];rfl
theorem zJ9:(tab.all fun p=>match p.2 with| .int_u8=>(match kdOf Tryz.prog p.1 with| .int .u8=>true|_=>false)|_=>true)=true:=by kernel_rfl
theorem zKo(t:Nat)(h:tc t= .int_u8):kdOf Tryz.prog t= .int .u8:=by
 unfold tc at h;cases hl:lk tab t with
 |none=>rw[hl]at h;cases h
 |some c=>
  rw[hl]at h;have h:c= .int_u8:=h;subst h;have:=Ab.1 zJ9 _ (Gh hl);simp only at this;split at this
  ·assumption
  ·cases this
theorem zGV(n:Nat): ∀(c:TC) (p:(List UInt8->List (Ct c))×(List (Ct c)->List UInt8)),bC c=some p->(∀l,(p.1 l).map (fC n c)=l.map fun b=>[PV.at (.int .u8 b.toNat)])/\(∀l,l.map (fC n c)=(p.2 l).map fun b=>[PV.at (.int .u8 b.toNat)])/\c= .int_u8:=by
 intro c p h;cases c
 case int_u8=>cases h;exact⟨fun l=>rfl,fun l=>rfl,rfl⟩
 all_goals cases h
theorem zIZ(t:Nat)(p:(List UInt8->List (I.C t))×(List (I.C t)->List UInt8))(h:I.byt t=some p):(∀l,(p.1 l).map (I.full t)=l.map fun b=>[PV.at (.int .u8 b.toNat)])/\(∀l,l.map (I.full t)=(p.2 l).map fun b=>[PV.at (.int .u8 b.toNat)])/\kdOf Tryz.prog t= .int .u8:=by obtain⟨h1,h2,h3⟩:=zGV (Tryz.prog.cellsOf t) (tc t) p h;exact⟨h1,h2,zKo t h3⟩
theorem ipOK:IpOK Tryz.prog I where
 len:=fun t x=>by show(fC _ _ x).length=_;exact(congrArg List.length (fe _ (tc t) x)).trans ((Fb ..).trans (zI5 _ (tc t) x (zEa t)))
 exp:=fun t x=>fe _ _ x
 pur:=fun t x v hv=>Ab.1 (zHh _ _ x) v hv
 made:=fun t cs x h=>decs (zHN _ _ cs x h)
 byt:=zIZ
noncomputable def T:TT:=[(2,ti Tryz.prog 2),(3,ti Tryz.prog 3),(4,ti Tryz.prog 4),(5,ti Tryz.prog 5),(9,ti Tryz.prog 9),(12,ti Tryz.prog 12),(21,ti Tryz.prog 21),(22,ti Tryz.prog 22),(24,ti Tryz.prog 24),(25,ti Tryz.prog 25),(27,ti Tryz.prog 27),(29,ti Tryz.prog 29),(30,ti Tryz.prog 30),(32,ti Tryz.prog 32),(33,ti Tryz.prog 33),(52,ti Tryz.prog 52),(57,ti Tryz.prog 57),(59,ti Tryz.prog 59),(62,ti Tryz.prog 62),(75,ti Tryz.prog 75),(79,ti Tryz.prog 79),(111,ti Tryz.prog 111),(119,ti Tryz.prog 119),(121,ti Tryz.prog 121),(133,ti Tryz.prog 133),(138,ti Tryz.prog 138),(172,ti Tryz.prog 172),(177,ti Tryz.prog 177),(189,ti Tryz.prog 189),(206,ti Tryz.prog 206),(208,ti Tryz.prog 208),(211,ti Tryz.prog 211),(216,ti Tryz.prog 216),(220,ti Tryz.prog 220),(230,ti Tryz.prog 230)]
def FK:List (Nat×List Kd):=[(57,[.int .u8, .str, .int .i64, .str, .bool])]
theorem tok:TOK Tryz.prog T FK:=X0 (l:=[2,3,4,5,9,12,21,22,24,25,27,29,30,32,33,52,57,59,62,75,79,111,119,121,133,138,172,177,189,206,208,211,216,220,230]) (by
 intro p hp;simp only[FK,Rb,Af,or_false]at hp;rcases hp with rfl<;>kernel_rfl)
theorem mixed:Tryz.prog.follows .mixedOrders=true:=by kernel_rfl
noncomputable def body(f:Go.Func):Code:=match f.body with|some c=>c|none=> .skip
noncomputable def rsl(f:Go.Func):List ResultVar:=f.results.toList
end Go.Lv.VT
