/- What stands for the values of types. -/
import Derived.Test.YtkecjfeffabgiaaGreatDoorProg
import Derived.Test.YtkecjfeffabgiaaGreatDoorLf
import Derived.Test.YtkecjfeffabgiaaGreatDoorTy
import Derived.KernelRfl
set_option linter.unusedSimpArgs false
set_option linter.unusedVariables false
namespace Go.Lv.VT
set_option maxRecDepth 100000
open Go.Proofs
inductive TC where
 |bool|int_i32|int_i64|int_u32|int_u64|int_u8|sl_2|sl_211|sl_216|sl_22|sl_24|sl_27|sl_4|sl_5|sl_57|sl_59|sl_9|st_VArr12_str|st_VArr2_i64|st_VCond|st_VDecl|st_VEnv|st_VToken|st_VValue|st_Vcond_reader|st_Vglue_start|st_Vnest_found|st_Vtoken_scanner|str|other
def Ct:TC->Type
 | .bool=>Bool| .int_i32=>Int| .int_i64=>Int| .int_u32=>Int| .int_u64=>Int| .int_u8=>UInt8| .sl_2=>List Int| .sl_211=>List zU| .sl_216=>List Q7| .sl_22=>List (List zb)| .sl_24=>List zD| .sl_27=>List zf| .sl_4=>List Bool| .sl_5=>List UInt8| .sl_57=>List zg| .sl_59=>List zb| .sl_9=>List Str| .st_VArr12_str=>zaC| .st_VArr2_i64=>Q7| .st_VCond=>zf| .st_VDecl=>zD| .st_VEnv=>VEnv| .st_VToken=>zg| .st_VValue=>zb| .st_Vcond_reader=>zk| .st_Vglue_start=>zU| .st_Vnest_found=>Zc| .st_Vtoken_scanner=>za| .str=>Str| .other=>Unit
def tab:List (Nat×TC):=[(2, .int_i64),(3, .int_i64),(4, .bool),(5, .int_u8),(9, .str),(12, .int_u64),(21, .int_i32),(22, .sl_59),(24, .st_VDecl),(25, .sl_27),(27, .st_VCond),(29, .st_VEnv),(30, .sl_4),(32, .sl_24),(33, .int_i64),(52, .sl_9),(57, .st_VToken),(59, .st_VValue),(62, .sl_57),(85, .st_Vcond_reader),(87, .sl_22),(111, .st_Vnest_found),(121, .st_Vtoken_scanner),(133, .sl_5),(172, .sl_2),(177, .sl_216),(189, .int_u32),(206, .int_u64),(208, .sl_211),(211, .st_Vglue_start),(216, .st_VArr2_i64),(220, .int_u64),(230, .st_VArr12_str)]
def tc(t:Nat):TC:=match lk tab t with|some c=>c|none=> .other
def Cn(t:Nat):Type:=Ct (tc t)
def dC:(c:TC)->Ct c
 | .bool=>(default:Bool)| .int_i32=>(default:Int)| .int_i64=>(default:Int)| .int_u32=>(default:Int)| .int_u64=>(default:Int)| .int_u8=>(default:UInt8)| .sl_2=>(default:List Int)| .sl_211=>(default:List zU)| .sl_216=>(default:List Q7)| .sl_22=>(default:List (List zb))| .sl_24=>(default:List zD)| .sl_27=>(default:List zf)| .sl_4=>(default:List Bool)| .sl_5=>(default:List UInt8)| .sl_57=>(default:List zg)| .sl_59=>(default:List zb)| .sl_9=>(default:List Str)| .st_VArr12_str=>(default:zaC)| .st_VArr2_i64=>(default:Q7)| .st_VCond=>(default:zf)| .st_VDecl=>(default:zD)| .st_VEnv=>(default:VEnv)| .st_VToken=>(default:zg)| .st_VValue=>(default:zb)| .st_Vcond_reader=>(default:zk)| .st_Vglue_start=>(default:zU)| .st_Vnest_found=>(default:Zc)| .st_Vtoken_scanner=>(default:za)| .str=>(default:Str)| .other=>()
def size:TC->Nat
 | .st_VArr12_str=>12| .st_VArr2_i64=>2| .st_VCond=>7| .st_VDecl=>3| .st_VToken=>5| .st_VValue=>6| .st_Vglue_start=>2| .st_Vnest_found=>3| .st_Vtoken_scanner=>2|_=>1
def zoP(x:zaC):List PV:=[.str x.e0, .str x.e1, .str x.e2, .str x.e3, .str x.e4, .str x.e5, .str x.e6, .str x.e7, .str x.e8, .str x.e9, .str x.e10, .str x.e11]
def JX(x:Q7):List PV:=[.at (.int .i64 x.e0), .at (.int .i64 x.e1)]
def mU(x:zg):List PV:=[.at (.int .u8 x.kind), .str x.text, .at (.int .i64 x.num), .str x.unit, .at (.bool x.flag)]
mutual
def zo:zb->List PV
 |⟨x_token,x_list⟩=>[.at (.int .u8 x_token.kind), .str x_token.text, .at (.int .i64 x_token.num), .str x_token.unit, .at (.bool x_token.flag), .sl (XB x_list)]
def XB:List zb->List (List PV)
 |[]=>[]
 |v::r=>zo v::XB r
end
theorem yG: ∀(l:List zb),XB l=l.map zo
 |[]=>by rw[XB];rfl
 |v::r=>by rw[XB,yG r];rfl
def Qs(x:zD):List PV:=[.str x.name, .sl (x.value.map zo), .at (.bool x.important)]
mutual
def zm:zf->List PV
 |⟨x_kind,x_name,x_num,x_decl,x_list⟩=>[.at (.int .u8 x_kind), .str x_name, .at (.int .i64 x_num), .str x_decl.name, .sl (x_decl.value.map zo), .at (.bool x_decl.important), .sl (CB x_list)]
def CB:List zf->List (List PV)
 |[]=>[]
 |v::r=>zm v::CB r
end
theorem pG: ∀(l:List zf),CB l=l.map zm
 |[]=>by rw[CB];rfl
 |v::r=>by rw[CB,pG r];rfl
def zDV(x:VEnv):List PV:=[.at (.int .i64 x.width)]
def zma(x:zk):List PV:=[.sl (x.v.map zo)]
def bY(x:zU):List PV:=[.at (.int .i64 x.token), .at (.int .i64 x.at_)]
def znp(x:Zc):List PV:=[.at (.int .i64 x.depth), .at (.int .i64 x.tokens), .at (.bool x.bad)]
def zjW(x:za):List PV:=[.str x.s, .at (.int .i64 x.at_)]
theorem IX(x_token:zg)(x_list:List zb):zo ⟨x_token,x_list⟩=[.at (.int .u8 x_token.kind), .str x_token.text, .at (.int .i64 x_token.num), .str x_token.unit, .at (.bool x_token.flag), .sl (x_list.map zo)]:=by simp only[zo,yG]
theorem iW(x_kind:Int)(x_name:Str)(x_num:Int)(x_decl:zD)(x_list:List zf):zm ⟨x_kind,x_name,x_num,x_decl,x_list⟩=[.at (.int .u8 x_kind), .str x_name, .at (.int .i64 x_num), .str x_decl.name, .sl (x_decl.value.map zo), .at (.bool x_decl.important), .sl (x_list.map zm)]:=by simp only[zm,pG]
theorem zoQ(x:zb):zo x=[.at (.int .u8 x.token.kind), .str x.token.text, .at (.int .i64 x.token.num), .str x.token.unit, .at (.bool x.token.flag), .sl (x.list.map zo)]:=by cases x;exact IX ..
theorem zqH(x:zf):zm x=[.at (.int .u8 x.kind), .str x.name, .at (.int .i64 x.num), .str x.decl.name, .sl (x.decl.value.map zo), .at (.bool x.decl.important), .sl (x.list.map zm)]:=by cases x;exact iW ..
def fC(n:Nat):(c:TC)->Ct c->List PV
 | .bool,(x:Bool)=>[.at (.bool x)]
 | .int_i32,(x:Int)=>[.at (.int .i32 x)]
 | .int_i64,(x:Int)=>[.at (.int .i64 x)]
 | .int_u32,(x:Int)=>[.at (.int .u32 x)]
 | .int_u64,(x:Int)=>[.at (.int .u64 x)]
 | .int_u8,(x:UInt8)=>[.at (.int .u8 x.toNat)]
 | .sl_2,(x:List Int)=>[.sl (x.map (fun y=>[.at (.int .i64 y)]))]
 | .sl_211,(x:List zU)=>[.sl (x.map bY)]
 | .sl_216,(x:List Q7)=>[.sl (x.map JX)]
 | .sl_22,(x:List (List zb))=>[.sl (x.map (fun y=>[.sl (y.map zo)]))]
 | .sl_24,(x:List zD)=>[.sl (x.map Qs)]
 | .sl_27,(x:List zf)=>[.sl (x.map zm)]
 | .sl_4,(x:List Bool)=>[.sl (x.map (fun y=>[.at (.bool y)]))]
 | .sl_5,(x:List UInt8)=>[.sl (x.map (fun y=>[.at (.int .u8 y.toNat)]))]
 | .sl_57,(x:List zg)=>[.sl (x.map mU)]
 | .sl_59,(x:List zb)=>[.sl (x.map zo)]
 | .sl_9,(x:List Str)=>[.sl (x.map (fun y=>[.str y]))]
 | .st_VArr12_str,(x:zaC)=>zoP x
 | .st_VArr2_i64,(x:Q7)=>JX x
 | .st_VCond,(x:zf)=>zm x
 | .st_VDecl,(x:zD)=>Qs x
 | .st_VEnv,(x:VEnv)=>zDV x
 | .st_VToken,(x:zg)=>mU x
 | .st_VValue,(x:zb)=>zo x
 | .st_Vcond_reader,(x:zk)=>zma x
 | .st_Vglue_start,(x:zU)=>bY x
 | .st_Vnest_found,(x:Zc)=>znp x
 | .st_Vtoken_scanner,(x:za)=>zjW x
 | .str,(x:Str)=>[.str x]
 | .other,_=>List.replicate n (.at (.slice none 0 0))
def eC(n:Nat):(c:TC)->Ct c->List (EV Cn)
 | .bool,(x:Bool)=>[.bool x]
 | .int_i32,(x:Int)=>[.int .i32 x]
 | .int_i64,(x:Int)=>[.int .i64 x]
 | .int_u32,(x:Int)=>[.int .u32 x]
 | .int_u64,(x:Int)=>[.int .u64 x]
 | .int_u8,(x:UInt8)=>[.int .u8 (x.toNat:Int)]
 | .sl_2,(x:List Int)=>[.sl 2 x]
 | .sl_211,(x:List zU)=>[.sl 211 x]
 | .sl_216,(x:List Q7)=>[.sl 216 x]
 | .sl_22,(x:List (List zb))=>[.sl 22 x]
 | .sl_24,(x:List zD)=>[.sl 24 x]
 | .sl_27,(x:List zf)=>[.sl 27 x]
 | .sl_4,(x:List Bool)=>[.sl 4 x]
 | .sl_5,(x:List UInt8)=>[.sl 5 x]
 | .sl_57,(x:List zg)=>[.sl 57 x]
 | .sl_59,(x:List zb)=>[.sl 59 x]
 | .sl_9,(x:List Str)=>[.sl 9 x]
 | .st_VArr12_str,(x:zaC)=>[.str x.e0, .str x.e1, .str x.e2, .str x.e3, .str x.e4, .str x.e5, .str x.e6, .str x.e7, .str x.e8, .str x.e9, .str x.e10, .str x.e11]
 | .st_VArr2_i64,(x:Q7)=>[.int .i64 x.e0, .int .i64 x.e1]
 | .st_VCond,(x:zf)=>[.int .u8 x.kind, .str x.name, .int .i64 x.num, .str x.decl.name, .sl 59 x.decl.value, .bool x.decl.important, .sl 27 x.list]
 | .st_VDecl,(x:zD)=>[.str x.name, .sl 59 x.value, .bool x.important]
 | .st_VEnv,(x:VEnv)=>[.int .i64 x.width]
 | .st_VToken,(x:zg)=>[.int .u8 x.kind, .str x.text, .int .i64 x.num, .str x.unit, .bool x.flag]
 | .st_VValue,(x:zb)=>[.int .u8 x.token.kind, .str x.token.text, .int .i64 x.token.num, .str x.token.unit, .bool x.token.flag, .sl 59 x.list]
 | .st_Vcond_reader,(x:zk)=>[.sl 59 x.v]
 | .st_Vglue_start,(x:zU)=>[.int .i64 x.token, .int .i64 x.at_]
 | .st_Vnest_found,(x:Zc)=>[.int .i64 x.depth, .int .i64 x.tokens, .bool x.bad]
 | .st_Vtoken_scanner,(x:za)=>[.str x.s, .int .i64 x.at_]
 | .str,(x:Str)=>[.str x]
 | .other,_=>List.replicate n .nil
def pJ:EV Cn->Option Int
 | .int .i32 n=>some n
 |_=>none
def Nj:EV Cn->Option Int
 | .int .i64 n=>some n
 |_=>none
def oJ:EV Cn->Option Int
 | .int .u32 n=>some n
 |_=>none
def PK:EV Cn->Option Int
 | .int .u64 n=>some n
 |_=>none
def Bw:EV Cn->Option Int
 | .int .u8 n=>some n
 |_=>none
def Bp:EV Cn->Option Bool
 | .bool b=>some b
 |_=>none
def dStr:EV Cn->Option Str
 | .str l=>some l
 |_=>none
def MO:EV Cn->Option (List Int)
 | .nil=>some []
 | .sl 2 l=>some l
 |_=>none
def KO:EV Cn->Option (List Bool)
 | .nil=>some []
 | .sl 4 l=>some l
 |_=>none
def nN:EV Cn->Option (List UInt8)
 | .nil=>some []
 | .sl 5 l=>some l
 |_=>none
def lN:EV Cn->Option (List Str)
 | .nil=>some []
 | .sl 9 l=>some l
 |_=>none
def rH:EV Cn->Option (List (List zb))
 | .nil=>some []
 | .sl 22 l=>some l
 |_=>none
def LP:EV Cn->Option (List zD)
 | .nil=>some []
 | .sl 24 l=>some l
 |_=>none
def gD:EV Cn->Option (List zf)
 | .nil=>some []
 | .sl 27 l=>some l
 |_=>none
def KP:EV Cn->Option (List zg)
 | .nil=>some []
 | .sl 57 l=>some l
 |_=>none
def kr:EV Cn->Option (List zb)
 | .nil=>some []
 | .sl 59 l=>some l
 |_=>none
def KJ:EV Cn->Option (List zU)
 | .nil=>some []
 | .sl 211 l=>some l
 |_=>none
def JJ:EV Cn->Option (List Q7)
 | .nil=>some []
 | .sl 216 l=>some l
 |_=>none
def mC:(c:TC)->List (EV Cn)->Option (Ct c)
 | .bool=>fun cs=>match cs with|[a0]=>(Bp a0).bind fun x0=>some x0|_=>none
 | .int_i32=>fun cs=>match cs with|[a0]=>(pJ a0).bind fun x0=>some x0|_=>none
 | .int_i64=>fun cs=>match cs with|[a0]=>(Nj a0).bind fun x0=>some x0|_=>none
 | .int_u32=>fun cs=>match cs with|[a0]=>(oJ a0).bind fun x0=>some x0|_=>none
 | .int_u64=>fun cs=>match cs with|[a0]=>(PK a0).bind fun x0=>some x0|_=>none
 | .int_u8=>fun cs=>match cs with|[a0]=>(Bw a0).bind QA|_=>none
 | .sl_2=>fun cs=>match cs with|[a0]=>(MO a0).bind fun x0=>some x0|_=>none
 | .sl_211=>fun cs=>match cs with|[a0]=>(KJ a0).bind fun x0=>some x0|_=>none
 | .sl_216=>fun cs=>match cs with|[a0]=>(JJ a0).bind fun x0=>some x0|_=>none
 | .sl_22=>fun cs=>match cs with|[a0]=>(rH a0).bind fun x0=>some x0|_=>none
 | .sl_24=>fun cs=>match cs with|[a0]=>(LP a0).bind fun x0=>some x0|_=>none
 | .sl_27=>fun cs=>match cs with|[a0]=>(gD a0).bind fun x0=>some x0|_=>none
 | .sl_4=>fun cs=>match cs with|[a0]=>(KO a0).bind fun x0=>some x0|_=>none
 | .sl_5=>fun cs=>match cs with|[a0]=>(nN a0).bind fun x0=>some x0|_=>none
 | .sl_57=>fun cs=>match cs with|[a0]=>(KP a0).bind fun x0=>some x0|_=>none
 | .sl_59=>fun cs=>match cs with|[a0]=>(kr a0).bind fun x0=>some x0|_=>none
 | .sl_9=>fun cs=>match cs with|[a0]=>(lN a0).bind fun x0=>some x0|_=>none
 | .st_VArr12_str=>fun cs=>match cs with|[a0,a1,a2,a3,a4,a5,a6,a7,a8,a9,a10,a11]=>(dStr a0).bind fun x0=>(dStr a1).bind fun x1=>(dStr a2).bind fun x2=>(dStr a3).bind fun x3=>(dStr a4).bind fun x4=>(dStr a5).bind fun x5=>(dStr a6).bind fun x6=>(dStr a7).bind fun x7=>(dStr a8).bind fun x8=>(dStr a9).bind fun x9=>(dStr a10).bind fun x10=>(dStr a11).bind fun x11=>some (⟨x0,x1,x2,x3,x4,x5,x6,x7,x8,x9,x10,x11⟩:zaC)|_=>none
 | .st_VArr2_i64=>fun cs=>match cs with|[a0,a1]=>(Nj a0).bind fun x0=>(Nj a1).bind fun x1=>some (⟨x0,x1⟩:Q7)|_=>none
 | .st_VCond=>fun cs=>match cs with|[a0,a1,a2,a3,a4,a5,a6]=>(Bw a0).bind fun x0=>(dStr a1).bind fun x1=>(Nj a2).bind fun x2=>(dStr a3).bind fun x3=>(kr a4).bind fun x4=>(Bp a5).bind fun x5=>(gD a6).bind fun x6=>some (⟨x0,x1,x2,(⟨x3,x4,x5⟩:zD),x6⟩:zf)|_=>none
 | .st_VDecl=>fun cs=>match cs with|[a0,a1,a2]=>(dStr a0).bind fun x0=>(kr a1).bind fun x1=>(Bp a2).bind fun x2=>some (⟨x0,x1,x2⟩:zD)|_=>none
 | .st_VEnv=>fun cs=>match cs with|[a0]=>(Nj a0).bind fun x0=>some (⟨x0⟩:VEnv)|_=>none
 | .st_VToken=>fun cs=>match cs with|[a0,a1,a2,a3,a4]=>(Bw a0).bind fun x0=>(dStr a1).bind fun x1=>(Nj a2).bind fun x2=>(dStr a3).bind fun x3=>(Bp a4).bind fun x4=>some (⟨x0,x1,x2,x3,x4⟩:zg)|_=>none
 | .st_VValue=>fun cs=>match cs with|[a0,a1,a2,a3,a4,a5]=>(Bw a0).bind fun x0=>(dStr a1).bind fun x1=>(Nj a2).bind fun x2=>(dStr a3).bind fun x3=>(Bp a4).bind fun x4=>(kr a5).bind fun x5=>some (⟨(⟨x0,x1,x2,x3,x4⟩:zg),x5⟩:zb)|_=>none
 | .st_Vcond_reader=>fun cs=>match cs with|[a0]=>(kr a0).bind fun x0=>some (⟨x0⟩:zk)|_=>none
 | .st_Vglue_start=>fun cs=>match cs with|[a0,a1]=>(Nj a0).bind fun x0=>(Nj a1).bind fun x1=>some (⟨x0,x1⟩:zU)|_=>none
 | .st_Vnest_found=>fun cs=>match cs with|[a0,a1,a2]=>(Nj a0).bind fun x0=>(Nj a1).bind fun x1=>(Bp a2).bind fun x2=>some (⟨x0,x1,x2⟩:Zc)|_=>none
 | .st_Vtoken_scanner=>fun cs=>match cs with|[a0,a1]=>(dStr a0).bind fun x0=>(Nj a1).bind fun x1=>some (⟨x0,x1⟩:za)|_=>none
 | .str=>fun cs=>match cs with|[a0]=>(dStr a0).bind fun x0=>some x0|_=>none
 | .other=>fun _=>none
def bC:(c:TC)->Option ((List UInt8->List (Ct c))×(List (Ct c)->List UInt8))
 | .int_u8=>some (fun l=>l,fun l=>l)
 |_=>none
noncomputable def I:Ip:=⟨Cn,fun t=>dC (tc t),fun t=>eC (Tryz.prog.cellsOf t) (tc t),fun t=>mC (tc t),fun t=>fC (Tryz.prog.cellsOf t) (tc t),fun t=>bC (tc t)⟩
theorem zKz:(tab.all fun p=>Nat.beq (Tryz.prog.cellsOf p.1) (size p.2))=true:=by kernel_rfl
theorem zDB(t:Nat)(h:tc t≠ .other):Tryz.prog.cellsOf t=size (tc t):=by
 unfold tc at h ⊢;cases hl:lk tab t with
 |none=>rw[hl]at h;exact absurd rfl h
 |some c=> simp only;exact Ra (aa.1 zKz _ (Wh hl))
def Dec(a:EV Cn)(p:PV):Prop:=Yl (I:=I) a=true/\WkP (pvE I a) p
theorem decs{cs:List (EV Cn)}{ps:List PV}(h:All2 Dec cs ps):(∀v∈cs,Yl (I:=I) v=true)/\cs.length=ps.length/\ ∀(j:Nat) (a b:PV),(cs.map (pvE I))[j]? =some a->ps[j]? =some b->WkP a b:=by
 induction h with
 |nil=>exact⟨fun v hv=>(by cases hv),rfl,fun j a b ha=>(by cases ha)⟩
 |cons h1 _ ih=>
  refine⟨fun v hv=> ?_,congrArg Nat.succ ih.2.1,fun j a b ha hb=> ?_⟩
  ·rcases Jb.1 hv with rfl|hv
   ·exact h1.1
   ·exact ih.1 v hv
  ·cases j with
   |zero=>injection ha with ha;injection hb with hb;rw[<-ha,<-hb];exact h1.2
   |succ j=>exact ih.2.2 j a b ha hb
theorem zu3{a:EV Cn}{x:Int}(h:pJ a=some x):Dec a (.at (.int .i32 x)):=by
 unfold pJ at h;split at h
 ·cases h;exact⟨rfl, .refl _⟩
 ·cases h
theorem qX{a:EV Cn}{x:Int}(h:Nj a=some x):Dec a (.at (.int .i64 x)):=by
 unfold Nj at h;split at h
 ·cases h;exact⟨rfl, .refl _⟩
 ·cases h
theorem zu4{a:EV Cn}{x:Int}(h:oJ a=some x):Dec a (.at (.int .u32 x)):=by
 unfold oJ at h;split at h
 ·cases h;exact⟨rfl, .refl _⟩
 ·cases h
theorem zu5{a:EV Cn}{x:Int}(h:PK a=some x):Dec a (.at (.int .u64 x)):=by
 unfold PK at h;split at h
 ·cases h;exact⟨rfl, .refl _⟩
 ·cases h
theorem PG{a:EV Cn}{x:Int}(h:Bw a=some x):Dec a (.at (.int .u8 x)):=by
 unfold Bw at h;split at h
 ·cases h;exact⟨rfl, .refl _⟩
 ·cases h
theorem Rw{a:EV Cn}{x:Bool}(h:Bp a=some x):Dec a (.at (.bool x)):=by
 unfold Bp at h;split at h
 ·cases h;exact⟨rfl, .refl _⟩
 ·cases h
theorem QU{a:EV Cn}{x:Str}(h:dStr a=some x):Dec a (.str x):=by
 unfold dStr at h;split at h
 ·cases h;exact⟨rfl, .refl _⟩
 ·cases h
theorem zDJ{a:EV Cn}{x:List Int}(h:MO a=some x):Dec a (.sl (x.map (I.full 2))):=by
 unfold MO at h;split at h
 ·cases h;exact⟨rfl, .nil⟩
 ·cases h;exact⟨rfl, .refl _⟩
 ·cases h
theorem zDK{a:EV Cn}{x:List Bool}(h:KO a=some x):Dec a (.sl (x.map (I.full 4))):=by
 unfold KO at h;split at h
 ·cases h;exact⟨rfl, .nil⟩
 ·cases h;exact⟨rfl, .refl _⟩
 ·cases h
theorem zDL{a:EV Cn}{x:List UInt8}(h:nN a=some x):Dec a (.sl (x.map (I.full 5))):=by
 unfold nN at h;split at h
 ·cases h;exact⟨rfl, .nil⟩
 ·cases h;exact⟨rfl, .refl _⟩
 ·cases h
theorem zDM{a:EV Cn}{x:List Str}(h:lN a=some x):Dec a (.sl (x.map (I.full 9))):=by
 unfold lN at h;split at h
 ·cases h;exact⟨rfl, .nil⟩
 ·cases h;exact⟨rfl, .refl _⟩
 ·cases h
theorem zz9{a:EV Cn}{x:List (List zb)}(h:rH a=some x):Dec a (.sl (x.map (I.full 22))):=by
 unfold rH at h;split at h
 ·cases h;exact⟨rfl, .nil⟩
 ·cases h;exact⟨rfl, .refl _⟩
 ·cases h
theorem zAb{a:EV Cn}{x:List zD}(h:LP a=some x):Dec a (.sl (x.map (I.full 24))):=by
 unfold LP at h;split at h
 ·cases h;exact⟨rfl, .nil⟩
 ·cases h;exact⟨rfl, .refl _⟩
 ·cases h
theorem OU{a:EV Cn}{x:List zf}(h:gD a=some x):Dec a (.sl (x.map (I.full 27))):=by
 unfold gD at h;split at h
 ·cases h;exact⟨rfl, .nil⟩
 ·cases h;exact⟨rfl, .refl _⟩
 ·cases h
theorem zAd{a:EV Cn}{x:List zg}(h:KP a=some x):Dec a (.sl (x.map (I.full 57))):=by
 unfold KP at h;split at h
 ·cases h;exact⟨rfl, .nil⟩
 ·cases h;exact⟨rfl, .refl _⟩
 ·cases h
theorem AB{a:EV Cn}{x:List zb}(h:kr a=some x):Dec a (.sl (x.map (I.full 59))):=by
 unfold kr at h;split at h
 ·cases h;exact⟨rfl, .nil⟩
 ·cases h;exact⟨rfl, .refl _⟩
 ·cases h
theorem zyr{a:EV Cn}{x:List zU}(h:KJ a=some x):Dec a (.sl (x.map (I.full 211))):=by
 unfold KJ at h;split at h
 ·cases h;exact⟨rfl, .nil⟩
 ·cases h;exact⟨rfl, .refl _⟩
 ·cases h
theorem zys{a:EV Cn}{x:List Q7}(h:JJ a=some x):Dec a (.sl (x.map (I.full 216))):=by
 unfold JJ at h;split at h
 ·cases h;exact⟨rfl, .nil⟩
 ·cases h;exact⟨rfl, .refl _⟩
 ·cases h
theorem zHO(n:Nat): ∀(c:TC) (cs:List (EV Cn)) (x:Ct c),mC c cs=some x->All2 Dec cs (fC n c x)
 | .bool,cs,x,h=>by
  simp only[mC]at h;split at h
  ·obtain⟨x0,h0,h⟩:=Ea.1 h;injection h with h;subst h;exact .cons (Rw h0) .nil
  ·cases h
 | .int_i32,cs,x,h=>by
  simp only[mC]at h;split at h
  ·obtain⟨x0,h0,h⟩:=Ea.1 h;injection h with h;subst h;exact .cons (zu3 h0) .nil
  ·cases h
 | .int_i64,cs,x,h=>by
  simp only[mC]at h;split at h
  ·obtain⟨x0,h0,h⟩:=Ea.1 h;injection h with h;subst h;exact .cons (qX h0) .nil
  ·cases h
 | .int_u32,cs,x,h=>by
  simp only[mC]at h;split at h
  ·obtain⟨x0,h0,h⟩:=Ea.1 h;injection h with h;subst h;exact .cons (zu4 h0) .nil
  ·cases h
 | .int_u64,cs,x,h=>by
  simp only[mC]at h;split at h
  ·obtain⟨x0,h0,h⟩:=Ea.1 h;injection h with h;subst h;exact .cons (zu5 h0) .nil
  ·cases h
 | .int_u8,cs,x,h=>by
  simp only[mC]at h;split at h
  ·obtain⟨x0,h0,h⟩:=Ea.1 h;have:=zzK h;subst this;exact .cons (PG h0) .nil
  ·cases h
 | .sl_2,cs,x,h=>by
  simp only[mC]at h;split at h
  ·obtain⟨x0,h0,h⟩:=Ea.1 h;injection h with h;subst h;exact .cons (zDJ h0) .nil
  ·cases h
 | .sl_211,cs,x,h=>by
  simp only[mC]at h;split at h
  ·obtain⟨x0,h0,h⟩:=Ea.1 h;injection h with h;subst h;exact .cons (zyr h0) .nil
  ·cases h
 | .sl_216,cs,x,h=>by
  simp only[mC]at h;split at h
  ·obtain⟨x0,h0,h⟩:=Ea.1 h;injection h with h;subst h;exact .cons (zys h0) .nil
  ·cases h
 | .sl_22,cs,x,h=>by
  simp only[mC]at h;split at h
  ·obtain⟨x0,h0,h⟩:=Ea.1 h;injection h with h;subst h;exact .cons (zz9 h0) .nil
  ·cases h
 | .sl_24,cs,x,h=>by
  simp only[mC]at h;split at h
  ·obtain⟨x0,h0,h⟩:=Ea.1 h;injection h with h;subst h;exact .cons (zAb h0) .nil
  ·cases h
 | .sl_27,cs,x,h=>by
  simp only[mC]at h;split at h
  ·obtain⟨x0,h0,h⟩:=Ea.1 h;injection h with h;subst h;exact .cons (OU h0) .nil
  ·cases h
 | .sl_4,cs,x,h=>by
  simp only[mC]at h;split at h
  ·obtain⟨x0,h0,h⟩:=Ea.1 h;injection h with h;subst h;exact .cons (zDK h0) .nil
  ·cases h
 | .sl_5,cs,x,h=>by
  simp only[mC]at h;split at h
  ·obtain⟨x0,h0,h⟩:=Ea.1 h;injection h with h;subst h;exact .cons (zDL h0) .nil
  ·cases h
 | .sl_57,cs,x,h=>by
  simp only[mC]at h;split at h
  ·obtain⟨x0,h0,h⟩:=Ea.1 h;injection h with h;subst h;exact .cons (zAd h0) .nil
  ·cases h
 | .sl_59,cs,x,h=>by
  simp only[mC]at h;split at h
  ·obtain⟨x0,h0,h⟩:=Ea.1 h;injection h with h;subst h;exact .cons (AB h0) .nil
  ·cases h
 | .sl_9,cs,x,h=>by
  simp only[mC]at h;split at h
  ·obtain⟨x0,h0,h⟩:=Ea.1 h;injection h with h;subst h;exact .cons (zDM h0) .nil
  ·cases h
 | .st_VArr12_str,cs,x,h=>by
  simp only[mC]at h;split at h
  ·obtain⟨x0,h0,h⟩:=Ea.1 h;obtain⟨x1,h1,h⟩:=Ea.1 h;obtain⟨x2,h2,h⟩:=Ea.1 h;obtain⟨x3,h3,h⟩:=Ea.1 h;obtain⟨x4,h4,h⟩:=Ea.1 h;obtain⟨x5,h5,h⟩:=Ea.1 h;obtain⟨x6,h6,h⟩:=Ea.1 h;obtain⟨x7,h7,h⟩:=Ea.1 h;obtain⟨x8,h8,h⟩:=Ea.1 h;obtain⟨x9,h9,h⟩:=Ea.1 h;obtain⟨x10,h10,h⟩:=Ea.1 h;obtain⟨x11,h11,h⟩:=Ea.1 h;injection h with h;subst h;exact .cons (QU h0) (.cons (QU h1) (.cons (QU h2) (.cons (QU h3) (.cons (QU h4) (.cons (QU h5) (.cons (QU h6) (.cons (QU h7) (.cons (QU h8) (.cons (QU h9) (.cons (QU h10) (.cons (QU h11) .nil)))))))))))
  ·cases h
 | .st_VArr2_i64,cs,x,h=>by
  simp only[mC]at h;split at h
  ·obtain⟨x0,h0,h⟩:=Ea.1 h;obtain⟨x1,h1,h⟩:=Ea.1 h;injection h with h;subst h;exact .cons (qX h0) (.cons (qX h1) .nil)
  ·cases h
 | .st_VCond,cs,x,h=>by
  simp only[mC]at h;split at h
  ·obtain⟨x0,h0,h⟩:=Ea.1 h;obtain⟨x1,h1,h⟩:=Ea.1 h;obtain⟨x2,h2,h⟩:=Ea.1 h;obtain⟨x3,h3,h⟩:=Ea.1 h;obtain⟨x4,h4,h⟩:=Ea.1 h;obtain⟨x5,h5,h⟩:=Ea.1 h;obtain⟨x6,h6,h⟩:=Ea.1 h;injection h with h;subst h;show All2 Dec _ (zm _);simp only[zm,pG];exact .cons (PG h0) (.cons (QU h1) (.cons (qX h2) (.cons (QU h3) (.cons (AB h4) (.cons (Rw h5) (.cons (OU h6) .nil))))))
  ·cases h
 | .st_VDecl,cs,x,h=>by
  simp only[mC]at h;split at h
  ·obtain⟨x0,h0,h⟩:=Ea.1 h;obtain⟨x1,h1,h⟩:=Ea.1 h;obtain⟨x2,h2,h⟩:=Ea.1 h;injection h with h;subst h;exact .cons (QU h0) (.cons (AB h1) (.cons (Rw h2) .nil))
  ·cases h
 | .st_VEnv,cs,x,h=>by
  simp only[mC]at h;split at h
  ·obtain⟨x0,h0,h⟩:=Ea.1 h;injection h with h;subst h;exact .cons (qX h0) .nil
  ·cases h
 | .st_VToken,cs,x,h=>by
  simp only[mC]at h;split at h
  ·obtain⟨x0,h0,h⟩:=Ea.1 h;obtain⟨x1,h1,h⟩:=Ea.1 h;obtain⟨x2,h2,h⟩:=Ea.1 h;obtain⟨x3,h3,h⟩:=Ea.1 h;obtain⟨x4,h4,h⟩:=Ea.1 h;injection h with h;subst h;exact .cons (PG h0) (.cons (QU h1) (.cons (qX h2) (.cons (QU h3) (.cons (Rw h4) .nil))))
  ·cases h
 | .st_VValue,cs,x,h=>by
  simp only[mC]at h;split at h
  ·obtain⟨x0,h0,h⟩:=Ea.1 h;obtain⟨x1,h1,h⟩:=Ea.1 h;obtain⟨x2,h2,h⟩:=Ea.1 h;obtain⟨x3,h3,h⟩:=Ea.1 h;obtain⟨x4,h4,h⟩:=Ea.1 h;obtain⟨x5,h5,h⟩:=Ea.1 h;injection h with h;subst h;show All2 Dec _ (zo _);simp only[zo,yG];exact .cons (PG h0) (.cons (QU h1) (.cons (qX h2) (.cons (QU h3) (.cons (Rw h4) (.cons (AB h5) .nil)))))
  ·cases h
 | .st_Vcond_reader,cs,x,h=>by
  simp only[mC]at h;split at h
  ·obtain⟨x0,h0,h⟩:=Ea.1 h;injection h with h;subst h;exact .cons (AB h0) .nil
  ·cases h
 | .st_Vglue_start,cs,x,h=>by
  simp only[mC]at h;split at h
  ·obtain⟨x0,h0,h⟩:=Ea.1 h;obtain⟨x1,h1,h⟩:=Ea.1 h;injection h with h;subst h;exact .cons (qX h0) (.cons (qX h1) .nil)
  ·cases h
 | .st_Vnest_found,cs,x,h=>by
  simp only[mC]at h;split at h
  ·obtain⟨x0,h0,h⟩:=Ea.1 h;obtain⟨x1,h1,h⟩:=Ea.1 h;obtain⟨x2,h2,h⟩:=Ea.1 h;injection h with h;subst h;exact .cons (qX h0) (.cons (qX h1) (.cons (Rw h2) .nil))
  ·cases h
 | .st_Vtoken_scanner,cs,x,h=>by
  simp only[mC]at h;split at h
  ·obtain⟨x0,h0,h⟩:=Ea.1 h;obtain⟨x1,h1,h⟩:=Ea.1 h;injection h with h;subst h;exact .cons (QU h0) (.cons (qX h1) .nil)
  ·cases h
 | .str,cs,x,h=>by
  simp only[mC]at h;split at h
  ·obtain⟨x0,h0,h⟩:=Ea.1 h;injection h with h;subst h;exact .cons (QU h0) .nil
  ·cases h
 | .other,cs,x,h=>by cases h
theorem fe(n:Nat): ∀(c:TC) (x:Ct c),fC n c x=(eC n c x).map (pvE I)
 | .bool,x=>rfl
 | .int_i32,x=>rfl
 | .int_i64,x=>rfl
 | .int_u32,x=>rfl
 | .int_u64,x=>rfl
 | .int_u8,x=>rfl
 | .sl_2,x=>rfl
 | .sl_211,x=>rfl
 | .sl_216,x=>rfl
 | .sl_22,x=>rfl
 | .sl_24,x=>rfl
 | .sl_27,x=>rfl
 | .sl_4,x=>rfl
 | .sl_5,x=>rfl
 | .sl_57,x=>rfl
 | .sl_59,x=>rfl
 | .sl_9,x=>rfl
 | .st_VArr12_str,x=>rfl
 | .st_VArr2_i64,x=>rfl
 | .st_VCond,(x:zf)=>by obtain⟨x_kind,x_name,x_num,x_decl,x_list⟩:=x;show zm _=_;simp only[zm,pG];rfl
 | .st_VDecl,x=>rfl
 | .st_VEnv,x=>rfl
 | .st_VToken,x=>rfl
 | .st_VValue,(x:zb)=>by obtain⟨x_token,x_list⟩:=x;show zo _=_;simp only[zo,yG];rfl
 | .st_Vcond_reader,x=>rfl
 | .st_Vglue_start,x=>rfl
 | .st_Vnest_found,x=>rfl
 | .st_Vtoken_scanner,x=>rfl
 | .str,x=>rfl
 | .other,x=>by show List.replicate n (PV.at (Value.slice none 0 0))=(List.replicate n EV.nil).map (pvE I);rw[List.map_replicate];rfl
theorem zJp(n:Nat)(c:TC)(x:Ct c)(h:c≠ .other->n=size c):(eC n c x).length=n:=by
 cases c
 case other=>simp[eC]
 all_goals (rw[h (by simp)];rfl)
theorem zHh(n:Nat): ∀(c:TC) (x:Ct c),(eC n c x).all (Yl (I:=I))=true
 | .bool,x=>rfl
 | .int_i32,x=>rfl
 | .int_i64,x=>rfl
 | .int_u32,x=>rfl
 | .int_u64,x=>rfl
 | .int_u8,x=>rfl
 | .sl_2,x=>rfl
 | .sl_211,x=>rfl
 | .sl_216,x=>rfl
 | .sl_22,x=>rfl
 | .sl_24,x=>rfl
 | .sl_27,x=>rfl
 | .sl_4,x=>rfl
 | .sl_5,x=>rfl
 | .sl_57,x=>rfl
 | .sl_59,x=>rfl
 | .sl_9,x=>rfl
 | .st_VArr12_str,x=>rfl
 | .st_VArr2_i64,x=>rfl
 | .st_VCond,x=>rfl
 | .st_VDecl,x=>rfl
 | .st_VEnv,x=>rfl
 | .st_VToken,x=>rfl
 | .st_VValue,x=>rfl
 | .st_Vcond_reader,x=>rfl
 | .st_Vglue_start,x=>rfl
 | .st_Vnest_found,x=>rfl
 | .st_Vtoken_scanner,x=>rfl
 | .str,x=>rfl
 | .other,x=>by show(List.replicate n EV.nil).all (Yl (I:=I))=true;rw[aa];intro v hv;rw[(List.mem_replicate.1 hv).2];rfl
theorem zKA:(tab.all fun p=>match p.2 with| .int_u8=>(match kdOf Tryz.prog p.1 with| .int .u8=>true|_=>false)|_=>true)=true:=by kernel_rfl
theorem zKR(t:Nat)(h:tc t= .int_u8):kdOf Tryz.prog t= .int .u8:=by
 unfold tc at h;cases hl:lk tab t with
 |none=>rw[hl]at h;cases h
 |some c=>
  rw[hl]at h;have h:c= .int_u8:=h;subst h;have:=aa.1 zKA _ (Wh hl);simp only at this;split at this
  ·assumption
  ·cases this
theorem zGV(n:Nat): ∀(c:TC) (p:(List UInt8->List (Ct c))×(List (Ct c)->List UInt8)),bC c=some p->(∀l,(p.1 l).map (fC n c)=l.map fun b=>[PV.at (.int .u8 b.toNat)])/\(∀l,l.map (fC n c)=(p.2 l).map fun b=>[PV.at (.int .u8 b.toNat)])/\c= .int_u8:=by
 intro c p h;cases c
 case int_u8=>cases h;exact⟨fun l=>rfl,fun l=>rfl,rfl⟩
 all_goals cases h
theorem zJg(t:Nat)(p:(List UInt8->List (I.C t))×(List (I.C t)->List UInt8))(h:I.byt t=some p):(∀l,(p.1 l).map (I.full t)=l.map fun b=>[PV.at (.int .u8 b.toNat)])/\(∀l,l.map (I.full t)=(p.2 l).map fun b=>[PV.at (.int .u8 b.toNat)])/\kdOf Tryz.prog t= .int .u8:=by obtain⟨h1,h2,h3⟩:=zGV (Tryz.prog.cellsOf t) (tc t) p h;exact⟨h1,h2,zKR t h3⟩
theorem ipOK:IpOK Tryz.prog I where
 len:=fun t x=>by show(fC _ _ x).length=_;exact(congrArg List.length (fe _ (tc t) x)).trans ((Ib ..).trans (zJp _ (tc t) x (zDB t)))
 exp:=fun t x=>fe _ _ x
 pur:=fun t x v hv=>aa.1 (zHh _ _ x) v hv
 made:=fun t cs x h=>decs (zHO _ _ cs x h)
 byt:=zJg
noncomputable def T:TT:=[(2,ti Tryz.prog 2),(3,ti Tryz.prog 3),(4,ti Tryz.prog 4),(5,ti Tryz.prog 5),(9,ti Tryz.prog 9),(12,ti Tryz.prog 12),(21,ti Tryz.prog 21),(22,ti Tryz.prog 22),(24,ti Tryz.prog 24),(25,ti Tryz.prog 25),(27,ti Tryz.prog 27),(29,ti Tryz.prog 29),(30,ti Tryz.prog 30),(32,ti Tryz.prog 32),(33,ti Tryz.prog 33),(52,ti Tryz.prog 52),(57,ti Tryz.prog 57),(59,ti Tryz.prog 59),(62,ti Tryz.prog 62),(75,ti Tryz.prog 75),(79,ti Tryz.prog 79),(83,ti Tryz.prog 83),(85,ti Tryz.prog 85),(87,ti Tryz.prog 87),(111,ti Tryz.prog 111),(114,ti Tryz.prog 114),(119,ti Tryz.prog 119),(121,ti Tryz.prog 121),(133,ti Tryz.prog 133),(138,ti Tryz.prog 138),(172,ti Tryz.prog 172),(177,ti Tryz.prog 177),(189,ti Tryz.prog 189),(206,ti Tryz.prog 206),(208,ti Tryz.prog 208),(211,ti Tryz.prog 211),(216,ti Tryz.prog 216),(220,ti Tryz.prog 220),(230,ti Tryz.prog 230)]
def FK:List (Nat×List Kd):=[(57,[.int .u8, .str, .int .i64, .str, .bool])]
theorem tok:TOK Tryz.prog T FK:=cO (l:=[2,3,4,5,9,12,21,22,24,25,27,29,30,32,33,52,57,59,62,75,79,83,85,87,111,114,119,121,133,138,172,177,189,206,208,211,216,220,230]) (by
 intro p hp;simp only[FK,Jb,Yd,Hg]at hp;rcases hp with rfl<;>kernel_rfl)
theorem mixed:Tryz.prog.follows .mixedOrders=true:=by kernel_rfl
noncomputable def body(f:Go.Func):Code:=match f.body with|some c=>c|none=> .skip
noncomputable def rsl(f:Go.Func):List ResultVar:=f.results.toList
end Go.Lv.VT
