/- What stands for the values of types. -/
import Derived.Test.YtkecjfeffabgiaaGreatDoorProg
import Derived.Test.YtkecjfeffabgiaaGreatDoorLf
import Derived.Test.YtkecjfeffabgiaaGreatDoorTy
import Derived.KernelRfl
set_option linter.unusedSimpArgs false
set_option linter.unusedVariables false
namespace Go.Lv.VT
set_option maxRecDepth 100000
open Go.Proofs
inductive TC where
 |bool|int_i32|int_i64|int_u32|int_u64|int_u8|sl_2|sl_211|sl_216|sl_22|sl_24|sl_27|sl_4|sl_5|sl_57|sl_59|sl_9|st_VArr12_str|st_VArr2_i64|st_VCond|st_VDecl|st_VEnv|st_VToken|st_VValue|st_Vcond_reader|st_Vglue_start|st_Vnest_found|st_Vtoken_scanner|str|other
def Ct:TC->Type
 | .bool=>Bool| .int_i32=>Int| .int_i64=>Int| .int_u32=>Int| .int_u64=>Int| .int_u8=>UInt8| .sl_2=>List Int| .sl_211=>List zM| .sl_216=>List Qv| .sl_22=>List (List zg)| .sl_24=>List zF| .sl_27=>List zh| .sl_4=>List Bool| .sl_5=>List UInt8| .sl_57=>List zk| .sl_59=>List zg| .sl_9=>List Str| .st_VArr12_str=>QQ| .st_VArr2_i64=>Qv| .st_VCond=>zh| .st_VDecl=>zF| .st_VEnv=>VEnv| .st_VToken=>zk| .st_VValue=>zg| .st_Vcond_reader=>zf| .st_Vglue_start=>zM| .st_Vnest_found=>zD| .st_Vtoken_scanner=>za| .str=>Str| .other=>Unit
def tab:List (Nat×TC):=[(2, .int_i64),(3, .int_i64),(4, .bool),(5, .int_u8),(9, .str),(12, .int_u64),(21, .int_i32),(22, .sl_59),(24, .st_VDecl),(25, .sl_27),(27, .st_VCond),(29, .st_VEnv),(30, .sl_4),(32, .sl_24),(33, .int_i64),(52, .sl_9),(57, .st_VToken),(59, .st_VValue),(62, .sl_57),(85, .st_Vcond_reader),(87, .sl_22),(111, .st_Vnest_found),(121, .st_Vtoken_scanner),(133, .sl_5),(172, .sl_2),(177, .sl_216),(189, .int_u32),(206, .int_u64),(208, .sl_211),(211, .st_Vglue_start),(216, .st_VArr2_i64),(220, .int_u64),(230, .st_VArr12_str)]
def tc(t:Nat):TC:=match lk tab t with|some c=>c|none=> .other
def Cn(t:Nat):Type:=Ct (tc t)
def dC:(c:TC)->Ct c
 | .bool=>(default:Bool)| .int_i32=>(default:Int)| .int_i64=>(default:Int)| .int_u32=>(default:Int)| .int_u64=>(default:Int)| .int_u8=>(default:UInt8)| .sl_2=>(default:List Int)| .sl_211=>(default:List zM)| .sl_216=>(default:List Qv)| .sl_22=>(default:List (List zg))| .sl_24=>(default:List zF)| .sl_27=>(default:List zh)| .sl_4=>(default:List Bool)| .sl_5=>(default:List UInt8)| .sl_57=>(default:List zk)| .sl_59=>(default:List zg)| .sl_9=>(default:List Str)| .st_VArr12_str=>(default:QQ)| .st_VArr2_i64=>(default:Qv)| .st_VCond=>(default:zh)| .st_VDecl=>(default:zF)| .st_VEnv=>(default:VEnv)| .st_VToken=>(default:zk)| .st_VValue=>(default:zg)| .st_Vcond_reader=>(default:zf)| .st_Vglue_start=>(default:zM)| .st_Vnest_found=>(default:zD)| .st_Vtoken_scanner=>(default:za)| .str=>(default:Str)| .other=>()
def size:TC->Nat
 | .st_VArr12_str=>12| .st_VArr2_i64=>2| .st_VCond=>7| .st_VDecl=>3| .st_VToken=>5| .st_VValue=>6| .st_Vglue_start=>2| .st_Vnest_found=>3| .st_Vtoken_scanner=>2|_=>1
def nL(x:QQ):List PV:=[.str x.e0, .str x.e1, .str x.e2, .str x.e3, .str x.e4, .str x.e5, .str x.e6, .str x.e7, .str x.e8, .str x.e9, .str x.e10, .str x.e11]
def JD(x:Qv):List PV:=[.at (.int .i64 x.e0), .at (.int .i64 x.e1)]
def rA(x:zk):List PV:=[.at (.int .u8 x.kind), .str x.text, .at (.int .i64 x.num), .str x.unit, .at (.bool x.flag)]
mutual
def qV:zg->List PV
 |⟨x_token,x_list⟩=>[.at (.int .u8 x_token.kind), .str x_token.text, .at (.int .i64 x_token.num), .str x_token.unit, .at (.bool x_token.flag), .sl (Uk x_list)]
def Uk:List zg->List (List PV)
 |[]=>[]
 |v::r=>qV v::Uk r
end
theorem Jw: ∀(l:List zg),Uk l=l.map qV
 |[]=>by rw[Uk];rfl
 |v::r=>by rw[Uk,Jw r];rfl
def AA(x:zF):List PV:=[.str x.name, .sl (x.value.map qV), .at (.bool x.important)]
mutual
def Eg:zh->List PV
 |⟨x_kind,x_name,x_num,x_decl,x_list⟩=>[.at (.int .u8 x_kind), .str x_name, .at (.int .i64 x_num), .str x_decl.name, .sl (x_decl.value.map qV), .at (.bool x_decl.important), .sl (Dk x_list)]
def Dk:List zh->List (List PV)
 |[]=>[]
 |v::r=>Eg v::Dk r
end
theorem Kv: ∀(l:List zh),Dk l=l.map Eg
 |[]=>by rw[Dk];rfl
 |v::r=>by rw[Dk,Kv r];rfl
def nH(x:VEnv):List PV:=[.at (.int .i64 x.width)]
def BM(x:zf):List PV:=[.sl (x.v.map qV)]
def RD(x:zM):List PV:=[.at (.int .i64 x.token), .at (.int .i64 x.at_)]
def FM(x:zD):List PV:=[.at (.int .i64 x.depth), .at (.int .i64 x.tokens), .at (.bool x.bad)]
def XM(x:za):List PV:=[.str x.s, .at (.int .i64 x.at_)]
def fC(n:Nat):(c:TC)->Ct c->List PV
 | .bool,(x:Bool)=>[.at (.bool x)]
 | .int_i32,(x:Int)=>[.at (.int .i32 x)]
 | .int_i64,(x:Int)=>[.at (.int .i64 x)]
 | .int_u32,(x:Int)=>[.at (.int .u32 x)]
 | .int_u64,(x:Int)=>[.at (.int .u64 x)]
 | .int_u8,(x:UInt8)=>[.at (.int .u8 x.toNat)]
 | .sl_2,(x:List Int)=>[.sl (x.map (fun y=>[.at (.int .i64 y)]))]
 | .sl_211,(x:List zM)=>[.sl (x.map RD)]
 | .sl_216,(x:List Qv)=>[.sl (x.map JD)]
 | .sl_22,(x:List (List zg))=>[.sl (x.map (fun y=>[.sl (y.map qV)]))]
 | .sl_24,(x:List zF)=>[.sl (x.map AA)]
 | .sl_27,(x:List zh)=>[.sl (x.map Eg)]
 | .sl_4,(x:List Bool)=>[.sl (x.map (fun y=>[.at (.bool y)]))]
 | .sl_5,(x:List UInt8)=>[.sl (x.map (fun y=>[.at (.int .u8 y.toNat)]))]
 | .sl_57,(x:List zk)=>[.sl (x.map rA)]
 | .sl_59,(x:List zg)=>[.sl (x.map qV)]
 | .sl_9,(x:List Str)=>[.sl (x.map (fun y=>[.str y]))]
 | .st_VArr12_str,(x:QQ)=>nL x
 | .st_VArr2_i64,(x:Qv)=>JD x
 | .st_VCond,(x:zh)=>Eg x
 | .st_VDecl,(x:zF)=>AA x
 | .st_VEnv,(x:VEnv)=>nH x
 | .st_VToken,(x:zk)=>rA x
 | .st_VValue,(x:zg)=>qV x
 | .st_Vcond_reader,(x:zf)=>BM x
 | .st_Vglue_start,(x:zM)=>RD x
 | .st_Vnest_found,(x:zD)=>FM x
 | .st_Vtoken_scanner,(x:za)=>XM x
 | .str,(x:Str)=>[.str x]
 | .other,_=>List.replicate n (.at (.slice none 0 0))
def eC(n:Nat):(c:TC)->Ct c->List (EV Cn)
 | .bool,(x:Bool)=>[.bool x]
 | .int_i32,(x:Int)=>[.int .i32 x]
 | .int_i64,(x:Int)=>[.int .i64 x]
 | .int_u32,(x:Int)=>[.int .u32 x]
 | .int_u64,(x:Int)=>[.int .u64 x]
 | .int_u8,(x:UInt8)=>[.int .u8 (x.toNat:Int)]
 | .sl_2,(x:List Int)=>[.sl 2 x]
 | .sl_211,(x:List zM)=>[.sl 211 x]
 | .sl_216,(x:List Qv)=>[.sl 216 x]
 | .sl_22,(x:List (List zg))=>[.sl 22 x]
 | .sl_24,(x:List zF)=>[.sl 24 x]
 | .sl_27,(x:List zh)=>[.sl 27 x]
 | .sl_4,(x:List Bool)=>[.sl 4 x]
 | .sl_5,(x:List UInt8)=>[.sl 5 x]
 | .sl_57,(x:List zk)=>[.sl 57 x]
 | .sl_59,(x:List zg)=>[.sl 59 x]
 | .sl_9,(x:List Str)=>[.sl 9 x]
 | .st_VArr12_str,(x:QQ)=>[.str x.e0, .str x.e1, .str x.e2, .str x.e3, .str x.e4, .str x.e5, .str x.e6, .str x.e7, .str x.e8, .str x.e9, .str x.e10, .str x.e11]
 | .st_VArr2_i64,(x:Qv)=>[.int .i64 x.e0, .int .i64 x.e1]
 | .st_VCond,(x:zh)=>[.int .u8 x.kind, .str x.name, .int .i64 x.num, .str x.decl.name, .sl 59 x.decl.value, .bool x.decl.important, .sl 27 x.list]
 | .st_VDecl,(x:zF)=>[.str x.name, .sl 59 x.value, .bool x.important]
 | .st_VEnv,(x:VEnv)=>[.int .i64 x.width]
 | .st_VToken,(x:zk)=>[.int .u8 x.kind, .str x.text, .int .i64 x.num, .str x.unit, .bool x.flag]
 | .st_VValue,(x:zg)=>[.int .u8 x.token.kind, .str x.token.text, .int .i64 x.token.num, .str x.token.unit, .bool x.token.flag, .sl 59 x.list]
 | .st_Vcond_reader,(x:zf)=>[.sl 59 x.v]
 | .st_Vglue_start,(x:zM)=>[.int .i64 x.token, .int .i64 x.at_]
 | .st_Vnest_found,(x:zD)=>[.int .i64 x.depth, .int .i64 x.tokens, .bool x.bad]
 | .st_Vtoken_scanner,(x:za)=>[.str x.s, .int .i64 x.at_]
 | .str,(x:Str)=>[.str x]
 | .other,_=>List.replicate n .nil
def Ns:EV Cn->Option Int
 | .int .i32 n=>some n
 |_=>none
def QW:EV Cn->Option Int
 | .int .i64 n=>some n
 |_=>none
def Ms:EV Cn->Option Int
 | .int .u32 n=>some n
 |_=>none
def Ls:EV Cn->Option Int
 | .int .u64 n=>some n
 |_=>none
def dh:EV Cn->Option Int
 | .int .u8 n=>some n
 |_=>none
def jf:EV Cn->Option Bool
 | .bool b=>some b
 |_=>none
def dStr:EV Cn->Option Str
 | .str l=>some l
 |_=>none
def Gq:EV Cn->Option (List Int)
 | .nil=>some []
 | .sl 2 l=>some l
 |_=>none
def Fq:EV Cn->Option (List Bool)
 | .nil=>some []
 | .sl 4 l=>some l
 |_=>none
def Dq:EV Cn->Option (List UInt8)
 | .nil=>some []
 | .sl 5 l=>some l
 |_=>none
def Cq:EV Cn->Option (List Str)
 | .nil=>some []
 | .sl 9 l=>some l
 |_=>none
def Br:EV Cn->Option (List (List zg))
 | .nil=>some []
 | .sl 22 l=>some l
 |_=>none
def Ar:EV Cn->Option (List zF)
 | .nil=>some []
 | .sl 24 l=>some l
 |_=>none
def Im:EV Cn->Option (List zh)
 | .nil=>some []
 | .sl 27 l=>some l
 |_=>none
def xq:EV Cn->Option (List zk)
 | .nil=>some []
 | .sl 57 l=>some l
 |_=>none
def Sg:EV Cn->Option (List zg)
 | .nil=>some []
 | .sl 59 l=>some l
 |_=>none
def mr:EV Cn->Option (List zM)
 | .nil=>some []
 | .sl 211 l=>some l
 |_=>none
def kr:EV Cn->Option (List Qv)
 | .nil=>some []
 | .sl 216 l=>some l
 |_=>none
def mC:(c:TC)->List (EV Cn)->Option (Ct c)
 | .bool=>fun cs=>match cs with|[a0]=>(jf a0).bind fun x0=>some x0|_=>none
 | .int_i32=>fun cs=>match cs with|[a0]=>(Ns a0).bind fun x0=>some x0|_=>none
 | .int_i64=>fun cs=>match cs with|[a0]=>(QW a0).bind fun x0=>some x0|_=>none
 | .int_u32=>fun cs=>match cs with|[a0]=>(Ms a0).bind fun x0=>some x0|_=>none
 | .int_u64=>fun cs=>match cs with|[a0]=>(Ls a0).bind fun x0=>some x0|_=>none
 | .int_u8=>fun cs=>match cs with|[a0]=>(dh a0).bind qA|_=>none
 | .sl_2=>fun cs=>match cs with|[a0]=>(Gq a0).bind fun x0=>some x0|_=>none
 | .sl_211=>fun cs=>match cs with|[a0]=>(mr a0).bind fun x0=>some x0|_=>none
 | .sl_216=>fun cs=>match cs with|[a0]=>(kr a0).bind fun x0=>some x0|_=>none
 | .sl_22=>fun cs=>match cs with|[a0]=>(Br a0).bind fun x0=>some x0|_=>none
 | .sl_24=>fun cs=>match cs with|[a0]=>(Ar a0).bind fun x0=>some x0|_=>none
 | .sl_27=>fun cs=>match cs with|[a0]=>(Im a0).bind fun x0=>some x0|_=>none
 | .sl_4=>fun cs=>match cs with|[a0]=>(Fq a0).bind fun x0=>some x0|_=>none
 | .sl_5=>fun cs=>match cs with|[a0]=>(Dq a0).bind fun x0=>some x0|_=>none
 | .sl_57=>fun cs=>match cs with|[a0]=>(xq a0).bind fun x0=>some x0|_=>none
 | .sl_59=>fun cs=>match cs with|[a0]=>(Sg a0).bind fun x0=>some x0|_=>none
 | .sl_9=>fun cs=>match cs with|[a0]=>(Cq a0).bind fun x0=>some x0|_=>none
 | .st_VArr12_str=>fun cs=>match cs with|[a0,a1,a2,a3,a4,a5,a6,a7,a8,a9,a10,a11]=>(dStr a0).bind fun x0=>(dStr a1).bind fun x1=>(dStr a2).bind fun x2=>(dStr a3).bind fun x3=>(dStr a4).bind fun x4=>(dStr a5).bind fun x5=>(dStr a6).bind fun x6=>(dStr a7).bind fun x7=>(dStr a8).bind fun x8=>(dStr a9).bind fun x9=>(dStr a10).bind fun x10=>(dStr a11).bind fun x11=>some (⟨x0,x1,x2,x3,x4,x5,x6,x7,x8,x9,x10,x11⟩:QQ)|_=>none
 | .st_VArr2_i64=>fun cs=>match cs with|[a0,a1]=>(QW a0).bind fun x0=>(QW a1).bind fun x1=>some (⟨x0,x1⟩:Qv)|_=>none
 | .st_VCond=>fun cs=>match cs with|[a0,a1,a2,a3,a4,a5,a6]=>(dh a0).bind fun x0=>(dStr a1).bind fun x1=>(QW a2).bind fun x2=>(dStr a3).bind fun x3=>(Sg a4).bind fun x4=>(jf a5).bind fun x5=>(Im a6).bind fun x6=>some (⟨x0,x1,x2,(⟨x3,x4,x5⟩:zF),x6⟩:zh)|_=>none
 | .st_VDecl=>fun cs=>match cs with|[a0,a1,a2]=>(dStr a0).bind fun x0=>(Sg a1).bind fun x1=>(jf a2).bind fun x2=>some (⟨x0,x1,x2⟩:zF)|_=>none
 | .st_VEnv=>fun cs=>match cs with|[a0]=>(QW a0).bind fun x0=>some (⟨x0⟩:VEnv)|_=>none
 | .st_VToken=>fun cs=>match cs with|[a0,a1,a2,a3,a4]=>(dh a0).bind fun x0=>(dStr a1).bind fun x1=>(QW a2).bind fun x2=>(dStr a3).bind fun x3=>(jf a4).bind fun x4=>some (⟨x0,x1,x2,x3,x4⟩:zk)|_=>none
 | .st_VValue=>fun cs=>match cs with|[a0,a1,a2,a3,a4,a5]=>(dh a0).bind fun x0=>(dStr a1).bind fun x1=>(QW a2).bind fun x2=>(dStr a3).bind fun x3=>(jf a4).bind fun x4=>(Sg a5).bind fun x5=>some (⟨(⟨x0,x1,x2,x3,x4⟩:zk),x5⟩:zg)|_=>none
 | .st_Vcond_reader=>fun cs=>match cs with|[a0]=>(Sg a0).bind fun x0=>some (⟨x0⟩:zf)|_=>none
 | .st_Vglue_start=>fun cs=>match cs with|[a0,a1]=>(QW a0).bind fun x0=>(QW a1).bind fun x1=>some (⟨x0,x1⟩:zM)|_=>none
 | .st_Vnest_found=>fun cs=>match cs with|[a0,a1,a2]=>(QW a0).bind fun x0=>(QW a1).bind fun x1=>(jf a2).bind fun x2=>some (⟨x0,x1,x2⟩:zD)|_=>none
 | .st_Vtoken_scanner=>fun cs=>match cs with|[a0,a1]=>(dStr a0).bind fun x0=>(QW a1).bind fun x1=>some (⟨x0,x1⟩:za)|_=>none
 | .str=>fun cs=>match cs with|[a0]=>(dStr a0).bind fun x0=>some x0|_=>none
 | .other=>fun _=>none
def bC:(c:TC)->Option ((List UInt8->List (Ct c))×(List (Ct c)->List UInt8))
 | .int_u8=>some (fun l=>l,fun l=>l)
 |_=>none
noncomputable def I:Ip:=⟨Cn,fun t=>dC (tc t),fun t=>eC (Tryz.prog.cellsOf t) (tc t),fun t=>mC (tc t),fun t=>fC (Tryz.prog.cellsOf t) (tc t),fun t=>bC (tc t)⟩
theorem kF:(tab.all fun p=>Nat.beq (Tryz.prog.cellsOf p.1) (size p.2))=true:=by kernel_rfl
theorem UH(t:Nat)(h:tc t≠ .other):Tryz.prog.cellsOf t=size (tc t):=by
 unfold tc at h ⊢;cases hl:lk tab t with
 |none=>rw[hl]at h;exact absurd rfl h
 |some c=> simp only;exact Fa (Ab.1 kF _ (Jd hl))
def Dec(a:EV Cn)(p:PV):Prop:=Bf (I:=I) a=true/\WkP (pvE I a) p
theorem decs{cs:List (EV Cn)}{ps:List PV}(h:All2 Dec cs ps):(∀v∈cs,Bf (I:=I) v=true)/\cs.length=ps.length/\ ∀(j:Nat) (a b:PV),(cs.map (pvE I))[j]? =some a->ps[j]? =some b->WkP a b:=by
 induction h with
 |nil=>exact⟨fun v hv=>(by cases hv),rfl,fun j a b ha=>(by cases ha)⟩
 |cons h1 _ ih=>
  refine⟨fun v hv=> ?_,congrArg Nat.succ ih.2.1,fun j a b ha hb=> ?_⟩
  ·rcases Na.1 hv with rfl|hv
   ·exact h1.1
   ·exact ih.1 v hv
  ·cases j with
   |zero=>injection ha with ha;injection hb with hb;rw[<-ha,<-hb];exact h1.2
   |succ j=>exact ih.2.2 j a b ha hb
theorem JJ{a:EV Cn}{x:Int}(h:Ns a=some x):Dec a (.at (.int .i32 x)):=by
 unfold Ns at h;split at h
 ·cases h;exact⟨rfl, .refl _⟩
 ·cases h
theorem qh{a:EV Cn}{x:Int}(h:QW a=some x):Dec a (.at (.int .i64 x)):=by
 unfold QW at h;split at h
 ·cases h;exact⟨rfl, .refl _⟩
 ·cases h
theorem IJ{a:EV Cn}{x:Int}(h:Ms a=some x):Dec a (.at (.int .u32 x)):=by
 unfold Ms at h;split at h
 ·cases h;exact⟨rfl, .refl _⟩
 ·cases h
theorem GJ{a:EV Cn}{x:Int}(h:Ls a=some x):Dec a (.at (.int .u64 x)):=by
 unfold Ls at h;split at h
 ·cases h;exact⟨rfl, .refl _⟩
 ·cases h
theorem yn{a:EV Cn}{x:Int}(h:dh a=some x):Dec a (.at (.int .u8 x)):=by
 unfold dh at h;split at h
 ·cases h;exact⟨rfl, .refl _⟩
 ·cases h
theorem xh{a:EV Cn}{x:Bool}(h:jf a=some x):Dec a (.at (.bool x)):=by
 unfold jf at h;split at h
 ·cases h;exact⟨rfl, .refl _⟩
 ·cases h
theorem Qm{a:EV Cn}{x:Str}(h:dStr a=some x):Dec a (.str x):=by
 unfold dStr at h;split at h
 ·cases h;exact⟨rfl, .refl _⟩
 ·cases h
theorem SH{a:EV Cn}{x:List Int}(h:Gq a=some x):Dec a (.sl (x.map (I.full 2))):=by
 unfold Gq at h;split at h
 ·cases h;exact⟨rfl, .nil⟩
 ·cases h;exact⟨rfl, .refl _⟩
 ·cases h
theorem RH{a:EV Cn}{x:List Bool}(h:Fq a=some x):Dec a (.sl (x.map (I.full 4))):=by
 unfold Fq at h;split at h
 ·cases h;exact⟨rfl, .nil⟩
 ·cases h;exact⟨rfl, .refl _⟩
 ·cases h
theorem rH{a:EV Cn}{x:List UInt8}(h:Dq a=some x):Dec a (.sl (x.map (I.full 5))):=by
 unfold Dq at h;split at h
 ·cases h;exact⟨rfl, .nil⟩
 ·cases h;exact⟨rfl, .refl _⟩
 ·cases h
theorem oH{a:EV Cn}{x:List Str}(h:Cq a=some x):Dec a (.sl (x.map (I.full 9))):=by
 unfold Cq at h;split at h
 ·cases h;exact⟨rfl, .nil⟩
 ·cases h;exact⟨rfl, .refl _⟩
 ·cases h
theorem dI{a:EV Cn}{x:List (List zg)}(h:Br a=some x):Dec a (.sl (x.map (I.full 22))):=by
 unfold Br at h;split at h
 ·cases h;exact⟨rfl, .nil⟩
 ·cases h;exact⟨rfl, .refl _⟩
 ·cases h
theorem bI{a:EV Cn}{x:List zF}(h:Ar a=some x):Dec a (.sl (x.map (I.full 24))):=by
 unfold Ar at h;split at h
 ·cases h;exact⟨rfl, .nil⟩
 ·cases h;exact⟨rfl, .refl _⟩
 ·cases h
theorem BA{a:EV Cn}{x:List zh}(h:Im a=some x):Dec a (.sl (x.map (I.full 27))):=by
 unfold Im at h;split at h
 ·cases h;exact⟨rfl, .nil⟩
 ·cases h;exact⟨rfl, .refl _⟩
 ·cases h
theorem aI{a:EV Cn}{x:List zk}(h:xq a=some x):Dec a (.sl (x.map (I.full 57))):=by
 unfold xq at h;split at h
 ·cases h;exact⟨rfl, .nil⟩
 ·cases h;exact⟨rfl, .refl _⟩
 ·cases h
theorem uj{a:EV Cn}{x:List zg}(h:Sg a=some x):Dec a (.sl (x.map (I.full 59))):=by
 unfold Sg at h;split at h
 ·cases h;exact⟨rfl, .nil⟩
 ·cases h;exact⟨rfl, .refl _⟩
 ·cases h
theorem sI{a:EV Cn}{x:List zM}(h:mr a=some x):Dec a (.sl (x.map (I.full 211))):=by
 unfold mr at h;split at h
 ·cases h;exact⟨rfl, .nil⟩
 ·cases h;exact⟨rfl, .refl _⟩
 ·cases h
theorem pI{a:EV Cn}{x:List Qv}(h:kr a=some x):Dec a (.sl (x.map (I.full 216))):=by
 unfold kr at h;split at h
 ·cases h;exact⟨rfl, .nil⟩
 ·cases h;exact⟨rfl, .refl _⟩
 ·cases h
theorem gF(n:Nat): ∀(c:TC) (cs:List (EV Cn)) (x:Ct c),mC c cs=some x->All2 Dec cs (fC n c x)
 | .bool,cs,x,h=>by
  simp only[mC]at h;split at h
  ·obtain⟨x0,h0,h⟩:=Aa.1 h;injection h with h;subst h;exact .cons (xh h0) .nil
  ·cases h
 | .int_i32,cs,x,h=>by
  simp only[mC]at h;split at h
  ·obtain⟨x0,h0,h⟩:=Aa.1 h;injection h with h;subst h;exact .cons (JJ h0) .nil
  ·cases h
 | .int_i64,cs,x,h=>by
  simp only[mC]at h;split at h
  ·obtain⟨x0,h0,h⟩:=Aa.1 h;injection h with h;subst h;exact .cons (qh h0) .nil
  ·cases h
 | .int_u32,cs,x,h=>by
  simp only[mC]at h;split at h
  ·obtain⟨x0,h0,h⟩:=Aa.1 h;injection h with h;subst h;exact .cons (IJ h0) .nil
  ·cases h
 | .int_u64,cs,x,h=>by
  simp only[mC]at h;split at h
  ·obtain⟨x0,h0,h⟩:=Aa.1 h;injection h with h;subst h;exact .cons (GJ h0) .nil
  ·cases h
 | .int_u8,cs,x,h=>by
  simp only[mC]at h;split at h
  ·obtain⟨x0,h0,h⟩:=Aa.1 h;have:=DI h;subst this;exact .cons (yn h0) .nil
  ·cases h
 | .sl_2,cs,x,h=>by
  simp only[mC]at h;split at h
  ·obtain⟨x0,h0,h⟩:=Aa.1 h;injection h with h;subst h;exact .cons (SH h0) .nil
  ·cases h
 | .sl_211,cs,x,h=>by
  simp only[mC]at h;split at h
  ·obtain⟨x0,h0,h⟩:=Aa.1 h;injection h with h;subst h;exact .cons (sI h0) .nil
  ·cases h
 | .sl_216,cs,x,h=>by
  simp only[mC]at h;split at h
  ·obtain⟨x0,h0,h⟩:=Aa.1 h;injection h with h;subst h;exact .cons (pI h0) .nil
  ·cases h
 | .sl_22,cs,x,h=>by
  simp only[mC]at h;split at h
  ·obtain⟨x0,h0,h⟩:=Aa.1 h;injection h with h;subst h;exact .cons (dI h0) .nil
  ·cases h
 | .sl_24,cs,x,h=>by
  simp only[mC]at h;split at h
  ·obtain⟨x0,h0,h⟩:=Aa.1 h;injection h with h;subst h;exact .cons (bI h0) .nil
  ·cases h
 | .sl_27,cs,x,h=>by
  simp only[mC]at h;split at h
  ·obtain⟨x0,h0,h⟩:=Aa.1 h;injection h with h;subst h;exact .cons (BA h0) .nil
  ·cases h
 | .sl_4,cs,x,h=>by
  simp only[mC]at h;split at h
  ·obtain⟨x0,h0,h⟩:=Aa.1 h;injection h with h;subst h;exact .cons (RH h0) .nil
  ·cases h
 | .sl_5,cs,x,h=>by
  simp only[mC]at h;split at h
  ·obtain⟨x0,h0,h⟩:=Aa.1 h;injection h with h;subst h;exact .cons (rH h0) .nil
  ·cases h
 | .sl_57,cs,x,h=>by
  simp only[mC]at h;split at h
  ·obtain⟨x0,h0,h⟩:=Aa.1 h;injection h with h;subst h;exact .cons (aI h0) .nil
  ·cases h
 | .sl_59,cs,x,h=>by
  simp only[mC]at h;split at h
  ·obtain⟨x0,h0,h⟩:=Aa.1 h;injection h with h;subst h;exact .cons (uj h0) .nil
  ·cases h
 | .sl_9,cs,x,h=>by
  simp only[mC]at h;split at h
  ·obtain⟨x0,h0,h⟩:=Aa.1 h;injection h with h;subst h;exact .cons (oH h0) .nil
  ·cases h
 | .st_VArr12_str,cs,x,h=>by
  simp only[mC]at h;split at h
  ·obtain⟨x0,h0,h⟩:=Aa.1 h;obtain⟨x1,h1,h⟩:=Aa.1 h;obtain⟨x2,h2,h⟩:=Aa.1 h;obtain⟨x3,h3,h⟩:=Aa.1 h;obtain⟨x4,h4,h⟩:=Aa.1 h;obtain⟨x5,h5,h⟩:=Aa.1 h;obtain⟨x6,h6,h⟩:=Aa.1 h;obtain⟨x7,h7,h⟩:=Aa.1 h;obtain⟨x8,h8,h⟩:=Aa.1 h;obtain⟨x9,h9,h⟩:=Aa.1 h;obtain⟨x10,h10,h⟩:=Aa.1 h;obtain⟨x11,h11,h⟩:=Aa.1 h;injection h with h;subst h;exact .cons (Qm h0) (.cons (Qm h1) (.cons (Qm h2) (.cons (Qm h3) (.cons (Qm h4) (.cons (Qm h5) (.cons (Qm h6) (.cons (Qm h7) (.cons (Qm h8) (.cons (Qm h9) (.cons (Qm h10) (.cons (Qm h11) .nil)))))))))))
  ·cases h
 | .st_VArr2_i64,cs,x,h=>by
  simp only[mC]at h;split at h
  ·obtain⟨x0,h0,h⟩:=Aa.1 h;obtain⟨x1,h1,h⟩:=Aa.1 h;injection h with h;subst h;exact .cons (qh h0) (.cons (qh h1) .nil)
  ·cases h
 | .st_VCond,cs,x,h=>by
  simp only[mC]at h;split at h
  ·obtain⟨x0,h0,h⟩:=Aa.1 h;obtain⟨x1,h1,h⟩:=Aa.1 h;obtain⟨x2,h2,h⟩:=Aa.1 h;obtain⟨x3,h3,h⟩:=Aa.1 h;obtain⟨x4,h4,h⟩:=Aa.1 h;obtain⟨x5,h5,h⟩:=Aa.1 h;obtain⟨x6,h6,h⟩:=Aa.1 h;injection h with h;subst h;show All2 Dec _ (Eg _);simp only[Eg,Kv];exact .cons (yn h0) (.cons (Qm h1) (.cons (qh h2) (.cons (Qm h3) (.cons (uj h4) (.cons (xh h5) (.cons (BA h6) .nil))))))
  ·cases h
 | .st_VDecl,cs,x,h=>by
  simp only[mC]at h;split at h
  ·obtain⟨x0,h0,h⟩:=Aa.1 h;obtain⟨x1,h1,h⟩:=Aa.1 h;obtain⟨x2,h2,h⟩:=Aa.1 h;injection h with h;subst h;exact .cons (Qm h0) (.cons (uj h1) (.cons (xh h2) .nil))
  ·cases h
 | .st_VEnv,cs,x,h=>by
  simp only[mC]at h;split at h
  ·obtain⟨x0,h0,h⟩:=Aa.1 h;injection h with h;subst h;exact .cons (qh h0) .nil
  ·cases h
 | .st_VToken,cs,x,h=>by
  simp only[mC]at h;split at h
  ·obtain⟨x0,h0,h⟩:=Aa.1 h;obtain⟨x1,h1,h⟩:=Aa.1 h;obtain⟨x2,h2,h⟩:=Aa.1 h;obtain⟨x3,h3,h⟩:=Aa.1 h;obtain⟨x4,h4,h⟩:=Aa.1 h;injection h with h;subst h;exact .cons (yn h0) (.cons (Qm h1) (.cons (qh h2) (.cons (Qm h3) (.cons (xh h4) .nil))))
  ·cases h
 | .st_VValue,cs,x,h=>by
  simp only[mC]at h;split at h
  ·obtain⟨x0,h0,h⟩:=Aa.1 h;obtain⟨x1,h1,h⟩:=Aa.1 h;obtain⟨x2,h2,h⟩:=Aa.1 h;obtain⟨x3,h3,h⟩:=Aa.1 h;obtain⟨x4,h4,h⟩:=Aa.1 h;obtain⟨x5,h5,h⟩:=Aa.1 h;injection h with h;subst h;show All2 Dec _ (qV _);simp only[qV,Jw];exact .cons (yn h0) (.cons (Qm h1) (.cons (qh h2) (.cons (Qm h3) (.cons (xh h4) (.cons (uj h5) .nil)))))
  ·cases h
 | .st_Vcond_reader,cs,x,h=>by
  simp only[mC]at h;split at h
  ·obtain⟨x0,h0,h⟩:=Aa.1 h;injection h with h;subst h;exact .cons (uj h0) .nil
  ·cases h
 | .st_Vglue_start,cs,x,h=>by
  simp only[mC]at h;split at h
  ·obtain⟨x0,h0,h⟩:=Aa.1 h;obtain⟨x1,h1,h⟩:=Aa.1 h;injection h with h;subst h;exact .cons (qh h0) (.cons (qh h1) .nil)
  ·cases h
 | .st_Vnest_found,cs,x,h=>by
  simp only[mC]at h;split at h
  ·obtain⟨x0,h0,h⟩:=Aa.1 h;obtain⟨x1,h1,h⟩:=Aa.1 h;obtain⟨x2,h2,h⟩:=Aa.1 h;injection h with h;subst h;exact .cons (qh h0) (.cons (qh h1) (.cons (xh h2) .nil))
  ·cases h
 | .st_Vtoken_scanner,cs,x,h=>by
  simp only[mC]at h;split at h
  ·obtain⟨x0,h0,h⟩:=Aa.1 h;obtain⟨x1,h1,h⟩:=Aa.1 h;injection h with h;subst h;exact .cons (Qm h0) (.cons (qh h1) .nil)
  ·cases h
 | .str,cs,x,h=>by
  simp only[mC]at h;split at h
  ·obtain⟨x0,h0,h⟩:=Aa.1 h;injection h with h;subst h;exact .cons (Qm h0) .nil
  ·cases h
 | .other,cs,x,h=>by cases h
theorem fe(n:Nat): ∀(c:TC) (x:Ct c),fC n c x=(eC n c x).map (pvE I)
 | .bool,x=>rfl
 | .int_i32,x=>rfl
 | .int_i64,x=>rfl
 | .int_u32,x=>rfl
 | .int_u64,x=>rfl
 | .int_u8,x=>rfl
 | .sl_2,x=>rfl
 | .sl_211,x=>rfl
 | .sl_216,x=>rfl
 | .sl_22,x=>rfl
 | .sl_24,x=>rfl
 | .sl_27,x=>rfl
 | .sl_4,x=>rfl
 | .sl_5,x=>rfl
 | .sl_57,x=>rfl
 | .sl_59,x=>rfl
 | .sl_9,x=>rfl
 | .st_VArr12_str,x=>rfl
 | .st_VArr2_i64,x=>rfl
 | .st_VCond,(x:zh)=>by obtain⟨x_kind,x_name,x_num,x_decl,x_list⟩:=x;show Eg _=_;simp only[Eg,Kv];rfl
 | .st_VDecl,x=>rfl
 | .st_VEnv,x=>rfl
 | .st_VToken,x=>rfl
 | .st_VValue,(x:zg)=>by obtain⟨x_token,x_list⟩:=x;show qV _=_;simp only[qV,Jw];rfl
 | .st_Vcond_reader,x=>rfl
 | .st_Vglue_start,x=>rfl
 | .st_Vnest_found,x=>rfl
 | .st_Vtoken_scanner,x=>rfl
 | .str,x=>rfl
 | .other,x=>by show List.replicate n (PV.at (Value.slice none 0 0))=(List.replicate n EV.nil).map (pvE I);rw[List.map_replicate];rfl
theorem CG(n:Nat)(c:TC)(x:Ct c)(h:c≠ .other->n=size c):(eC n c x).length=n:=by
 cases c
 case other=>simp[eC]
 all_goals (rw[h (by simp)];rfl)
theorem xG(n:Nat): ∀(c:TC) (x:Ct c),(eC n c x).all (Bf (I:=I))=true
 | .bool,x=>rfl
 | .int_i32,x=>rfl
 | .int_i64,x=>rfl
 | .int_u32,x=>rfl
 | .int_u64,x=>rfl
 | .int_u8,x=>rfl
 | .sl_2,x=>rfl
 | .sl_211,x=>rfl
 | .sl_216,x=>rfl
 | .sl_22,x=>rfl
 | .sl_24,x=>rfl
 | .sl_27,x=>rfl
 | .sl_4,x=>rfl
 | .sl_5,x=>rfl
 | .sl_57,x=>rfl
 | .sl_59,x=>rfl
 | .sl_9,x=>rfl
 | .st_VArr12_str,x=>rfl
 | .st_VArr2_i64,x=>rfl
 | .st_VCond,x=>rfl
 | .st_VDecl,x=>rfl
 | .st_VEnv,x=>rfl
 | .st_VToken,x=>rfl
 | .st_VValue,x=>rfl
 | .st_Vcond_reader,x=>rfl
 | .st_Vglue_start,x=>rfl
 | .st_Vnest_found,x=>rfl
 | .st_Vtoken_scanner,x=>rfl
 | .str,x=>rfl
 | .other,x=>by show(List.replicate n EV.nil).all (Bf (I:=I))=true;rw[Ab];intro v hv;rw[(List.mem_replicate.1 hv).2];rfl
theorem jF:(tab.all fun p=>match p.2 with| .int_u8=>(match kdOf Tryz.prog p.1 with| .int .u8=>true|_=>false)|_=>true)=true:=by kernel_rfl
theorem GG(t:Nat)(h:tc t= .int_u8):kdOf Tryz.prog t= .int .u8:=by
 unfold tc at h;cases hl:lk tab t with
 |none=>rw[hl]at h;cases h
 |some c=>
  rw[hl]at h;have h:c= .int_u8:=h;subst h;have:=Ab.1 jF _ (Jd hl);simp only at this;split at this
  ·assumption
  ·cases this
theorem kG(n:Nat): ∀(c:TC) (p:(List UInt8->List (Ct c))×(List (Ct c)->List UInt8)),bC c=some p->(∀l,(p.1 l).map (fC n c)=l.map fun b=>[PV.at (.int .u8 b.toNat)])/\(∀l,l.map (fC n c)=(p.2 l).map fun b=>[PV.at (.int .u8 b.toNat)])/\c= .int_u8:=by
 intro c p h;cases c
 case int_u8=>cases h;exact⟨fun l=>rfl,fun l=>rfl,rfl⟩
 all_goals cases h
theorem DF(t:Nat)(p:(List UInt8->List (I.C t))×(List (I.C t)->List UInt8))(h:I.byt t=some p):(∀l,(p.1 l).map (I.full t)=l.map fun b=>[PV.at (.int .u8 b.toNat)])/\(∀l,l.map (I.full t)=(p.2 l).map fun b=>[PV.at (.int .u8 b.toNat)])/\kdOf Tryz.prog t= .int .u8:=by obtain⟨h1,h2,h3⟩:=kG (Tryz.prog.cellsOf t) (tc t) p h;exact⟨h1,h2,GG t h3⟩
theorem ipOK:IpOK Tryz.prog I where
 len:=fun t x=>by show(fC _ _ x).length=_;exact(congrArg List.length (fe _ (tc t) x)).trans ((Ia ..).trans (CG _ (tc t) x (UH t)))
 exp:=fun t x=>fe _ _ x
 pur:=fun t x v hv=>Ab.1 (xG _ _ x) v hv
 made:=fun t cs x h=>decs (gF _ _ cs x h)
 byt:=DF
noncomputable def T:TT:=[(2,ti Tryz.prog 2),(3,ti Tryz.prog 3),(4,ti Tryz.prog 4),(5,ti Tryz.prog 5),(9,ti Tryz.prog 9),(12,ti Tryz.prog 12),(21,ti Tryz.prog 21),(22,ti Tryz.prog 22),(24,ti Tryz.prog 24),(25,ti Tryz.prog 25),(27,ti Tryz.prog 27),(29,ti Tryz.prog 29),(30,ti Tryz.prog 30),(32,ti Tryz.prog 32),(33,ti Tryz.prog 33),(52,ti Tryz.prog 52),(57,ti Tryz.prog 57),(59,ti Tryz.prog 59),(62,ti Tryz.prog 62),(75,ti Tryz.prog 75),(79,ti Tryz.prog 79),(83,ti Tryz.prog 83),(85,ti Tryz.prog 85),(87,ti Tryz.prog 87),(111,ti Tryz.prog 111),(114,ti Tryz.prog 114),(119,ti Tryz.prog 119),(121,ti Tryz.prog 121),(133,ti Tryz.prog 133),(138,ti Tryz.prog 138),(172,ti Tryz.prog 172),(177,ti Tryz.prog 177),(189,ti Tryz.prog 189),(206,ti Tryz.prog 206),(208,ti Tryz.prog 208),(211,ti Tryz.prog 211),(216,ti Tryz.prog 216),(220,ti Tryz.prog 220),(230,ti Tryz.prog 230)]
def FK:List (Nat×List Kd):=[(57,[.int .u8, .str, .int .i64, .str, .bool])]
theorem tok:TOK Tryz.prog T FK:=Wq (l:=[2,3,4,5,9,12,21,22,24,25,27,29,30,32,33,52,57,59,62,75,79,83,85,87,111,114,119,121,133,138,172,177,189,206,208,211,216,220,230]) (by
 intro p hp;simp only[FK,Na,List.not_mem_nil,or_false]at hp;rcases hp with rfl<;>kernel_rfl)
theorem mixed:Tryz.prog.follows .mixedOrders=true:=by kernel_rfl
noncomputable def body(f:Go.Func):Code:=match f.body with|some c=>c|none=> .skip
noncomputable def rsl(f:Go.Func):List ResultVar:=f.results.toList
end Go.Lv.VT
