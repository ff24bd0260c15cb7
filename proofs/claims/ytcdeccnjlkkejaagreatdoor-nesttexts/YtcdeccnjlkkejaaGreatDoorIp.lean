/- What stands for the values of types. -/
import Derived.Test.YtcdeccnjlkkejaaGreatDoorProg
import Derived.Test.YtcdeccnjlkkejaaGreatDoorLf
import Derived.Test.YtcdeccnjlkkejaaGreatDoorTy
import Derived.KernelRfl
set_option linter.unusedSimpArgs false
set_option linter.unusedVariables false
namespace Go.Lv.VT
set_option maxRecDepth 100000
open Go.Proofs
inductive TC where
 |bool|int_i32|int_i64|int_u32|int_u64|int_u8|sl_119|sl_172|sl_23|sl_44|sl_49|sl_5|sl_66|sl_9|st_VArr12_str|st_VArr2_i64|st_VDecl|st_VToken|st_VValue|st_Vglue_start|st_Vnest_found|st_Vtoken_scanner|str|other
def Ct:TC->Type
 | .bool=>Bool| .int_i32=>Int| .int_i64=>Int| .int_u32=>Int| .int_u64=>Int| .int_u8=>UInt8| .sl_119=>List zz| .sl_172=>List Qe| .sl_23=>List (List zg)| .sl_44=>List zb| .sl_49=>List zg| .sl_5=>List UInt8| .sl_66=>List zgN| .sl_9=>List Str| .st_VArr12_str=>QK| .st_VArr2_i64=>Qe| .st_VDecl=>zgN| .st_VToken=>zb| .st_VValue=>zg| .st_Vglue_start=>zz| .st_Vnest_found=>zI| .st_Vtoken_scanner=>za| .str=>Str| .other=>Unit
def tab:List (Nat×TC):=[(2, .int_i64),(3, .int_i64),(4, .bool),(5, .int_u8),(9, .str),(12, .int_u64),(21, .int_i32),(22, .sl_44),(23, .sl_49),(25, .int_i64),(42, .sl_5),(44, .st_VToken),(49, .st_VValue),(52, .sl_23),(66, .st_VDecl),(71, .sl_66),(101, .st_Vnest_found),(116, .sl_119),(119, .st_Vglue_start),(122, .sl_9),(133, .st_Vtoken_scanner),(140, .sl_172),(149, .st_VArr12_str),(172, .st_VArr2_i64),(174, .int_u64),(185, .int_u32),(217, .int_u64)]
def tc(t:Nat):TC:=match lk tab t with|some c=>c|none=> .other
def Cn(t:Nat):Type:=Ct (tc t)
def dC:(c:TC)->Ct c
 | .bool=>(default:Bool)| .int_i32=>(default:Int)| .int_i64=>(default:Int)| .int_u32=>(default:Int)| .int_u64=>(default:Int)| .int_u8=>(default:UInt8)| .sl_119=>(default:List zz)| .sl_172=>(default:List Qe)| .sl_23=>(default:List (List zg))| .sl_44=>(default:List zb)| .sl_49=>(default:List zg)| .sl_5=>(default:List UInt8)| .sl_66=>(default:List zgN)| .sl_9=>(default:List Str)| .st_VArr12_str=>(default:QK)| .st_VArr2_i64=>(default:Qe)| .st_VDecl=>(default:zgN)| .st_VToken=>(default:zb)| .st_VValue=>(default:zg)| .st_Vglue_start=>(default:zz)| .st_Vnest_found=>(default:zI)| .st_Vtoken_scanner=>(default:za)| .str=>(default:Str)| .other=>()
def size:TC->Nat
 | .st_VArr12_str=>12| .st_VArr2_i64=>2| .st_VDecl=>3| .st_VToken=>5| .st_VValue=>6| .st_Vglue_start=>2| .st_Vnest_found=>3| .st_Vtoken_scanner=>2|_=>1
def zmK(x:QK):List PV:=[.str x.e0, .str x.e1, .str x.e2, .str x.e3, .str x.e4, .str x.e5, .str x.e6, .str x.e7, .str x.e8, .str x.e9, .str x.e10, .str x.e11]
def XU(x:Qe):List PV:=[.at (.int .i64 x.e0), .at (.int .i64 x.e1)]
def Io(x:zb):List PV:=[.at (.int .u8 x.kind), .str x.text, .at (.int .i64 x.num), .str x.unit, .at (.bool x.flag)]
mutual
def zG:zg->List PV
 |⟨c,d⟩=>[.at (.int .u8 c.kind), .str c.text, .at (.int .i64 c.num), .str c.unit, .at (.bool c.flag), .sl (gz d)]
def gz:List zg->List (List PV)
 |[]=>[]
 |v::r=>zG v::gz r
end
theorem RF: ∀(l:List zg),gz l=l.map zG
 |[]=>by rw[gz];rfl
 |v::r=>by rw[gz,RF r];rfl
def KQ(x:zgN):List PV:=[.str x.name, .sl (x.value.map zG), .at (.bool x.important)]
def MV(x:zz):List PV:=[.at (.int .i64 x.token), .at (.int .i64 x.at_)]
def zld(x:zI):List PV:=[.at (.int .i64 x.depth), .at (.int .i64 x.tokens), .at (.bool x.bad)]
def zhF(x:za):List PV:=[.str x.s, .at (.int .i64 x.at_)]
theorem WU(c:zb)(d:List zg):zG ⟨c,d⟩=[.at (.int .u8 c.kind), .str c.text, .at (.int .i64 c.num), .str c.unit, .at (.bool c.flag), .sl (d.map zG)]:=by simp only[zG,RF]
def fC(n:Nat):(c:TC)->Ct c->List PV
 | .bool,(x:Bool)=>[.at (.bool x)]
 | .int_i32,(x:Int)=>[.at (.int .i32 x)]
 | .int_i64,(x:Int)=>[.at (.int .i64 x)]
 | .int_u32,(x:Int)=>[.at (.int .u32 x)]
 | .int_u64,(x:Int)=>[.at (.int .u64 x)]
 | .int_u8,(x:UInt8)=>[.at (.int .u8 x.toNat)]
 | .sl_119,(x:List zz)=>[.sl (x.map MV)]
 | .sl_172,(x:List Qe)=>[.sl (x.map XU)]
 | .sl_23,(x:List (List zg))=>[.sl (x.map (fun y=>[.sl (y.map zG)]))]
 | .sl_44,(x:List zb)=>[.sl (x.map Io)]
 | .sl_49,(x:List zg)=>[.sl (x.map zG)]
 | .sl_5,(x:List UInt8)=>[.sl (x.map (fun y=>[.at (.int .u8 y.toNat)]))]
 | .sl_66,(x:List zgN)=>[.sl (x.map KQ)]
 | .sl_9,(x:List Str)=>[.sl (x.map (fun y=>[.str y]))]
 | .st_VArr12_str,(x:QK)=>zmK x
 | .st_VArr2_i64,(x:Qe)=>XU x
 | .st_VDecl,(x:zgN)=>KQ x
 | .st_VToken,(x:zb)=>Io x
 | .st_VValue,(x:zg)=>zG x
 | .st_Vglue_start,(x:zz)=>MV x
 | .st_Vnest_found,(x:zI)=>zld x
 | .st_Vtoken_scanner,(x:za)=>zhF x
 | .str,(x:Str)=>[.str x]
 | .other,_=>List.replicate n (.at (.slice none 0 0))
def eC(n:Nat):(c:TC)->Ct c->List (EV Cn)
 | .bool,(x:Bool)=>[.bool x]
 | .int_i32,(x:Int)=>[.int .i32 x]
 | .int_i64,(x:Int)=>[.int .i64 x]
 | .int_u32,(x:Int)=>[.int .u32 x]
 | .int_u64,(x:Int)=>[.int .u64 x]
 | .int_u8,(x:UInt8)=>[.int .u8 (x.toNat:Int)]
 | .sl_119,(x:List zz)=>[.sl 119 x]
 | .sl_172,(x:List Qe)=>[.sl 172 x]
 | .sl_23,(x:List (List zg))=>[.sl 23 x]
 | .sl_44,(x:List zb)=>[.sl 44 x]
 | .sl_49,(x:List zg)=>[.sl 49 x]
 | .sl_5,(x:List UInt8)=>[.sl 5 x]
 | .sl_66,(x:List zgN)=>[.sl 66 x]
 | .sl_9,(x:List Str)=>[.sl 9 x]
 | .st_VArr12_str,(x:QK)=>[.str x.e0, .str x.e1, .str x.e2, .str x.e3, .str x.e4, .str x.e5, .str x.e6, .str x.e7, .str x.e8, .str x.e9, .str x.e10, .str x.e11]
 | .st_VArr2_i64,(x:Qe)=>[.int .i64 x.e0, .int .i64 x.e1]
 | .st_VDecl,(x:zgN)=>[.str x.name, .sl 49 x.value, .bool x.important]
 | .st_VToken,(x:zb)=>[.int .u8 x.kind, .str x.text, .int .i64 x.num, .str x.unit, .bool x.flag]
 | .st_VValue,(x:zg)=>[.int .u8 x.token.kind, .str x.token.text, .int .i64 x.token.num, .str x.token.unit, .bool x.token.flag, .sl 49 x.list]
 | .st_Vglue_start,(x:zz)=>[.int .i64 x.token, .int .i64 x.at_]
 | .st_Vnest_found,(x:zI)=>[.int .i64 x.depth, .int .i64 x.tokens, .bool x.bad]
 | .st_Vtoken_scanner,(x:za)=>[.str x.s, .int .i64 x.at_]
 | .str,(x:Str)=>[.str x]
 | .other,_=>List.replicate n .nil
def jH:EV Cn->Option Int
 | .int .i32 n=>some n
 |_=>none
def Dk:EV Cn->Option Int
 | .int .i64 n=>some n
 |_=>none
def iH:EV Cn->Option Int
 | .int .u32 n=>some n
 |_=>none
def gH:EV Cn->Option Int
 | .int .u64 n=>some n
 |_=>none
def Cy:EV Cn->Option Int
 | .int .u8 n=>some n
 |_=>none
def Ro:EV Cn->Option Bool
 | .bool b=>some b
 |_=>none
def dStr:EV Cn->Option Str
 | .str l=>some l
 |_=>none
def oL:EV Cn->Option (List UInt8)
 | .nil=>some []
 | .sl 5 l=>some l
 |_=>none
def lL:EV Cn->Option (List Str)
 | .nil=>some []
 | .sl 9 l=>some l
 |_=>none
def TG:EV Cn->Option (List (List zg))
 | .nil=>some []
 | .sl 23 l=>some l
 |_=>none
def SG:EV Cn->Option (List zb)
 | .nil=>some []
 | .sl 44 l=>some l
 |_=>none
def Ow:EV Cn->Option (List zg)
 | .nil=>some []
 | .sl 49 l=>some l
 |_=>none
def RG:EV Cn->Option (List zgN)
 | .nil=>some []
 | .sl 66 l=>some l
 |_=>none
def gG:EV Cn->Option (List zz)
 | .nil=>some []
 | .sl 119 l=>some l
 |_=>none
def fG:EV Cn->Option (List Qe)
 | .nil=>some []
 | .sl 172 l=>some l
 |_=>none
def mC:(c:TC)->List (EV Cn)->Option (Ct c)
 | .bool=>fun cs=>match cs with|[a0]=>(Ro a0).bind fun d=>some d|_=>none
 | .int_i32=>fun cs=>match cs with|[a0]=>(jH a0).bind fun d=>some d|_=>none
 | .int_i64=>fun cs=>match cs with|[a0]=>(Dk a0).bind fun d=>some d|_=>none
 | .int_u32=>fun cs=>match cs with|[a0]=>(iH a0).bind fun d=>some d|_=>none
 | .int_u64=>fun cs=>match cs with|[a0]=>(gH a0).bind fun d=>some d|_=>none
 | .int_u8=>fun cs=>match cs with|[a0]=>(Cy a0).bind Zw|_=>none
 | .sl_119=>fun cs=>match cs with|[a0]=>(gG a0).bind fun d=>some d|_=>none
 | .sl_172=>fun cs=>match cs with|[a0]=>(fG a0).bind fun d=>some d|_=>none
 | .sl_23=>fun cs=>match cs with|[a0]=>(TG a0).bind fun d=>some d|_=>none
 | .sl_44=>fun cs=>match cs with|[a0]=>(SG a0).bind fun d=>some d|_=>none
 | .sl_49=>fun cs=>match cs with|[a0]=>(Ow a0).bind fun d=>some d|_=>none
 | .sl_5=>fun cs=>match cs with|[a0]=>(oL a0).bind fun d=>some d|_=>none
 | .sl_66=>fun cs=>match cs with|[a0]=>(RG a0).bind fun d=>some d|_=>none
 | .sl_9=>fun cs=>match cs with|[a0]=>(lL a0).bind fun d=>some d|_=>none
 | .st_VArr12_str=>fun cs=>match cs with|[a0,a1,a2,j,a4,r,B,J,L,O,u,v]=>(dStr a0).bind fun d=>(dStr a1).bind fun f=>(dStr a2).bind fun i=>(dStr j).bind fun m=>(dStr a4).bind fun p=>(dStr r).bind fun y=>(dStr B).bind fun U=>(dStr J).bind fun V=>(dStr L).bind fun W=>(dStr O).bind fun Y=>(dStr u).bind fun z=>(dStr v).bind fun A=>some (⟨d,f,i,m,p,y,U,V,W,Y,z,A⟩:QK)|_=>none
 | .st_VArr2_i64=>fun cs=>match cs with|[a0,a1]=>(Dk a0).bind fun d=>(Dk a1).bind fun f=>some (⟨d,f⟩:Qe)|_=>none
 | .st_VDecl=>fun cs=>match cs with|[a0,a1,a2]=>(dStr a0).bind fun d=>(Ow a1).bind fun f=>(Ro a2).bind fun i=>some (⟨d,f,i⟩:zgN)|_=>none
 | .st_VToken=>fun cs=>match cs with|[a0,a1,a2,j,a4]=>(Cy a0).bind fun d=>(dStr a1).bind fun f=>(Dk a2).bind fun i=>(dStr j).bind fun m=>(Ro a4).bind fun p=>some (⟨d,f,i,m,p⟩:zb)|_=>none
 | .st_VValue=>fun cs=>match cs with|[a0,a1,a2,j,a4,r]=>(Cy a0).bind fun d=>(dStr a1).bind fun f=>(Dk a2).bind fun i=>(dStr j).bind fun m=>(Ro a4).bind fun p=>(Ow r).bind fun y=>some (⟨(⟨d,f,i,m,p⟩:zb),y⟩:zg)|_=>none
 | .st_Vglue_start=>fun cs=>match cs with|[a0,a1]=>(Dk a0).bind fun d=>(Dk a1).bind fun f=>some (⟨d,f⟩:zz)|_=>none
 | .st_Vnest_found=>fun cs=>match cs with|[a0,a1,a2]=>(Dk a0).bind fun d=>(Dk a1).bind fun f=>(Ro a2).bind fun i=>some (⟨d,f,i⟩:zI)|_=>none
 | .st_Vtoken_scanner=>fun cs=>match cs with|[a0,a1]=>(dStr a0).bind fun d=>(Dk a1).bind fun f=>some (⟨d,f⟩:za)|_=>none
 | .str=>fun cs=>match cs with|[a0]=>(dStr a0).bind fun d=>some d|_=>none
 | .other=>fun _=>none
def bC:(c:TC)->Option ((List UInt8->List (Ct c))×(List (Ct c)->List UInt8))
 | .int_u8=>some (fun l=>l,fun l=>l)
 |_=>none
noncomputable def I:Ip:=⟨Cn,fun t=>dC (tc t),fun t=>eC (Tryz.prog.cellsOf t) (tc t),fun t=>mC (tc t),fun t=>fC (Tryz.prog.cellsOf t) (tc t),fun t=>bC (tc t)⟩
theorem zEq:(tab.all fun p=>Nat.beq (Tryz.prog.cellsOf p.1) (size p.2))=true:=by kernel_rfl
theorem EY(t:Nat)(h:tc t≠ .other):Tryz.prog.cellsOf t=size (tc t):=by
 unfold tc at h ⊢;cases hl:lk tab t with
 |none=>rw[hl]at h;exact absurd rfl h
 |some c=> simp only;exact Bb (Xa.1 zEq _ (Zg hl))
def Dec(a:EV Cn)(p:PV):Prop:=Sm (I:=I) a=true/\WkP (pvE I a) p
theorem decs{cs:List (EV Cn)}{ps:List PV}(h:All2 Dec cs ps):(∀v∈cs,Sm (I:=I) v=true)/\cs.length=ps.length/\ ∀(j:Nat) (a b:PV),(cs.map (pvE I))[j]? =some a->ps[j]? =some b->WkP a b:=by
 induction h with
 |nil=>exact⟨fun v hv=>(by cases hv),rfl,fun j a b ha=>(by cases ha)⟩
 |cons h1 _ c=>
  refine⟨fun v hv=> ?_,congrArg Nat.succ c.2.1,fun j a b ha hb=> ?_⟩
  ·rcases ma.1 hv with rfl|hv
   ·exact h1.1
   ·exact c.1 v hv
  ·cases j with
   |zero=>injection ha with ha;injection hb with hb;rw[<-ha,<-hb];exact h1.2
   |d j=>exact c.2.2 j a b ha hb
theorem N9{a:EV Cn}{x:Int}(h:jH a=some x):Dec a (.at (.int .i32 x)):=by
 unfold jH at h;split at h
 ·cases h;exact⟨rfl, .refl _⟩
 ·cases h
theorem qW{a:EV Cn}{x:Int}(h:Dk a=some x):Dec a (.at (.int .i64 x)):=by
 unfold Dk at h;split at h
 ·cases h;exact⟨rfl, .refl _⟩
 ·cases h
theorem M9{a:EV Cn}{x:Int}(h:iH a=some x):Dec a (.at (.int .u32 x)):=by
 unfold iH at h;split at h
 ·cases h;exact⟨rfl, .refl _⟩
 ·cases h
theorem L9{a:EV Cn}{x:Int}(h:gH a=some x):Dec a (.at (.int .u64 x)):=by
 unfold gH at h;split at h
 ·cases h;exact⟨rfl, .refl _⟩
 ·cases h
theorem aJ{a:EV Cn}{x:Int}(h:Cy a=some x):Dec a (.at (.int .u8 x)):=by
 unfold Cy at h;split at h
 ·cases h;exact⟨rfl, .refl _⟩
 ·cases h
theorem Py{a:EV Cn}{x:Bool}(h:Ro a=some x):Dec a (.at (.bool x)):=by
 unfold Ro at h;split at h
 ·cases h;exact⟨rfl, .refl _⟩
 ·cases h
theorem QB{a:EV Cn}{x:Str}(h:dStr a=some x):Dec a (.str x):=by
 unfold dStr at h;split at h
 ·cases h;exact⟨rfl, .refl _⟩
 ·cases h
theorem xX{a:EV Cn}{x:List UInt8}(h:oL a=some x):Dec a (.sl (x.map (I.full 5))):=by
 unfold oL at h;split at h
 ·cases h;exact⟨rfl, .nil⟩
 ·cases h;exact⟨rfl, .refl _⟩
 ·cases h
theorem wX{a:EV Cn}{x:List Str}(h:lL a=some x):Dec a (.sl (x.map (I.full 9))):=by
 unfold lL at h;split at h
 ·cases h;exact⟨rfl, .nil⟩
 ·cases h;exact⟨rfl, .refl _⟩
 ·cases h
theorem V4{a:EV Cn}{x:List (List zg)}(h:TG a=some x):Dec a (.sl (x.map (I.full 23))):=by
 unfold TG at h;split at h
 ·cases h;exact⟨rfl, .nil⟩
 ·cases h;exact⟨rfl, .refl _⟩
 ·cases h
theorem U4{a:EV Cn}{x:List zb}(h:SG a=some x):Dec a (.sl (x.map (I.full 44))):=by
 unfold SG at h;split at h
 ·cases h;exact⟨rfl, .nil⟩
 ·cases h;exact⟨rfl, .refl _⟩
 ·cases h
theorem DJ{a:EV Cn}{x:List zg}(h:Ow a=some x):Dec a (.sl (x.map (I.full 49))):=by
 unfold Ow at h;split at h
 ·cases h;exact⟨rfl, .nil⟩
 ·cases h;exact⟨rfl, .refl _⟩
 ·cases h
theorem R4{a:EV Cn}{x:List zgN}(h:RG a=some x):Dec a (.sl (x.map (I.full 66))):=by
 unfold RG at h;split at h
 ·cases h;exact⟨rfl, .nil⟩
 ·cases h;exact⟨rfl, .refl _⟩
 ·cases h
theorem F8{a:EV Cn}{x:List zz}(h:gG a=some x):Dec a (.sl (x.map (I.full 119))):=by
 unfold gG at h;split at h
 ·cases h;exact⟨rfl, .nil⟩
 ·cases h;exact⟨rfl, .refl _⟩
 ·cases h
theorem E8{a:EV Cn}{x:List Qe}(h:fG a=some x):Dec a (.sl (x.map (I.full 172))):=by
 unfold fG at h;split at h
 ·cases h;exact⟨rfl, .nil⟩
 ·cases h;exact⟨rfl, .refl _⟩
 ·cases h
theorem zCr(n:Nat): ∀(c:TC) (cs:List (EV Cn)) (x:Ct c),mC c cs=some x->All2 Dec cs (fC n c x)
 | .bool,cs,x,h=>by
  simp only[mC]at h;split at h
  ·obtain⟨d,h0,h⟩:=Ca.1 h;injection h with h;subst h;exact .cons (Py h0) .nil
  ·cases h
 | .int_i32,cs,x,h=>by
  simp only[mC]at h;split at h
  ·obtain⟨d,h0,h⟩:=Ca.1 h;injection h with h;subst h;exact .cons (N9 h0) .nil
  ·cases h
 | .int_i64,cs,x,h=>by
  simp only[mC]at h;split at h
  ·obtain⟨d,h0,h⟩:=Ca.1 h;injection h with h;subst h;exact .cons (qW h0) .nil
  ·cases h
 | .int_u32,cs,x,h=>by
  simp only[mC]at h;split at h
  ·obtain⟨d,h0,h⟩:=Ca.1 h;injection h with h;subst h;exact .cons (M9 h0) .nil
  ·cases h
 | .int_u64,cs,x,h=>by
  simp only[mC]at h;split at h
  ·obtain⟨d,h0,h⟩:=Ca.1 h;injection h with h;subst h;exact .cons (L9 h0) .nil
  ·cases h
 | .int_u8,cs,x,h=>by
  simp only[mC]at h;split at h
  ·obtain⟨d,h0,h⟩:=Ca.1 h;have:=U3 h;subst r;exact .cons (aJ h0) .nil
  ·cases h
 | .sl_119,cs,x,h=>by
  simp only[mC]at h;split at h
  ·obtain⟨d,h0,h⟩:=Ca.1 h;injection h with h;subst h;exact .cons (F8 h0) .nil
  ·cases h
 | .sl_172,cs,x,h=>by
  simp only[mC]at h;split at h
  ·obtain⟨d,h0,h⟩:=Ca.1 h;injection h with h;subst h;exact .cons (E8 h0) .nil
  ·cases h
 | .sl_23,cs,x,h=>by
  simp only[mC]at h;split at h
  ·obtain⟨d,h0,h⟩:=Ca.1 h;injection h with h;subst h;exact .cons (V4 h0) .nil
  ·cases h
 | .sl_44,cs,x,h=>by
  simp only[mC]at h;split at h
  ·obtain⟨d,h0,h⟩:=Ca.1 h;injection h with h;subst h;exact .cons (U4 h0) .nil
  ·cases h
 | .sl_49,cs,x,h=>by
  simp only[mC]at h;split at h
  ·obtain⟨d,h0,h⟩:=Ca.1 h;injection h with h;subst h;exact .cons (DJ h0) .nil
  ·cases h
 | .sl_5,cs,x,h=>by
  simp only[mC]at h;split at h
  ·obtain⟨d,h0,h⟩:=Ca.1 h;injection h with h;subst h;exact .cons (xX h0) .nil
  ·cases h
 | .sl_66,cs,x,h=>by
  simp only[mC]at h;split at h
  ·obtain⟨d,h0,h⟩:=Ca.1 h;injection h with h;subst h;exact .cons (R4 h0) .nil
  ·cases h
 | .sl_9,cs,x,h=>by
  simp only[mC]at h;split at h
  ·obtain⟨d,h0,h⟩:=Ca.1 h;injection h with h;subst h;exact .cons (wX h0) .nil
  ·cases h
 | .st_VArr12_str,cs,x,h=>by
  simp only[mC]at h;split at h
  ·obtain⟨d,h0,h⟩:=Ca.1 h;obtain⟨f,h1,h⟩:=Ca.1 h;obtain⟨i,h2,h⟩:=Ca.1 h;obtain⟨u,h3,h⟩:=Ca.1 h;obtain⟨v,h4,h⟩:=Ca.1 h;obtain⟨y,j,h⟩:=Ca.1 h;obtain⟨U,z,h⟩:=Ca.1 h;obtain⟨V,A,h⟩:=Ca.1 h;obtain⟨W,B,h⟩:=Ca.1 h;obtain⟨Y,J,h⟩:=Ca.1 h;obtain⟨L,m,h⟩:=Ca.1 h;obtain⟨O,p,h⟩:=Ca.1 h;injection h with h;subst h;exact .cons (QB h0) (.cons (QB h1) (.cons (QB h2) (.cons (QB h3) (.cons (QB h4) (.cons (QB j) (.cons (QB z) (.cons (QB A) (.cons (QB B) (.cons (QB J) (.cons (QB m) (.cons (QB p) .nil)))))))))))
  ·cases h
 | .st_VArr2_i64,cs,x,h=>by
  simp only[mC]at h;split at h
  ·obtain⟨d,h0,h⟩:=Ca.1 h;obtain⟨f,h1,h⟩:=Ca.1 h;injection h with h;subst h;exact .cons (qW h0) (.cons (qW h1) .nil)
  ·cases h
 | .st_VDecl,cs,x,h=>by
  simp only[mC]at h;split at h
  ·obtain⟨d,h0,h⟩:=Ca.1 h;obtain⟨f,h1,h⟩:=Ca.1 h;obtain⟨i,h2,h⟩:=Ca.1 h;injection h with h;subst h;exact .cons (QB h0) (.cons (DJ h1) (.cons (Py h2) .nil))
  ·cases h
 | .st_VToken,cs,x,h=>by
  simp only[mC]at h;split at h
  ·obtain⟨d,h0,h⟩:=Ca.1 h;obtain⟨f,h1,h⟩:=Ca.1 h;obtain⟨i,h2,h⟩:=Ca.1 h;obtain⟨u,h3,h⟩:=Ca.1 h;obtain⟨v,h4,h⟩:=Ca.1 h;injection h with h;subst h;exact .cons (aJ h0) (.cons (QB h1) (.cons (qW h2) (.cons (QB h3) (.cons (Py h4) .nil))))
  ·cases h
 | .st_VValue,cs,x,h=>by
  simp only[mC]at h;split at h
  ·obtain⟨d,h0,h⟩:=Ca.1 h;obtain⟨f,h1,h⟩:=Ca.1 h;obtain⟨i,h2,h⟩:=Ca.1 h;obtain⟨u,h3,h⟩:=Ca.1 h;obtain⟨v,h4,h⟩:=Ca.1 h;obtain⟨y,j,h⟩:=Ca.1 h;injection h with h;subst h;show All2 Dec _ (zG _);simp only[zG,RF];exact .cons (aJ h0) (.cons (QB h1) (.cons (qW h2) (.cons (QB h3) (.cons (Py h4) (.cons (DJ j) .nil)))))
  ·cases h
 | .st_Vglue_start,cs,x,h=>by
  simp only[mC]at h;split at h
  ·obtain⟨d,h0,h⟩:=Ca.1 h;obtain⟨f,h1,h⟩:=Ca.1 h;injection h with h;subst h;exact .cons (qW h0) (.cons (qW h1) .nil)
  ·cases h
 | .st_Vnest_found,cs,x,h=>by
  simp only[mC]at h;split at h
  ·obtain⟨d,h0,h⟩:=Ca.1 h;obtain⟨f,h1,h⟩:=Ca.1 h;obtain⟨i,h2,h⟩:=Ca.1 h;injection h with h;subst h;exact .cons (qW h0) (.cons (qW h1) (.cons (Py h2) .nil))
  ·cases h
 | .st_Vtoken_scanner,cs,x,h=>by
  simp only[mC]at h;split at h
  ·obtain⟨d,h0,h⟩:=Ca.1 h;obtain⟨f,h1,h⟩:=Ca.1 h;injection h with h;subst h;exact .cons (QB h0) (.cons (qW h1) .nil)
  ·cases h
 | .str,cs,x,h=>by
  simp only[mC]at h;split at h
  ·obtain⟨d,h0,h⟩:=Ca.1 h;injection h with h;subst h;exact .cons (QB h0) .nil
  ·cases h
 | .other,cs,x,h=>by cases h
theorem fe(n:Nat): ∀(c:TC) (x:Ct c),fC n c x=(eC n c x).map (pvE I)
 | .bool,x=>rfl
 | .int_i32,x=>rfl
 | .int_i64,x=>rfl
 | .int_u32,x=>rfl
 | .int_u64,x=>rfl
 | .int_u8,x=>rfl
 | .sl_119,x=>rfl
 | .sl_172,x=>rfl
 | .sl_23,x=>rfl
 | .sl_44,x=>rfl
 | .sl_49,x=>rfl
 | .sl_5,x=>rfl
 | .sl_66,x=>rfl
 | .sl_9,x=>rfl
 | .st_VArr12_str,x=>rfl
 | .st_VArr2_i64,x=>rfl
 | .st_VDecl,x=>rfl
 | .st_VToken,x=>rfl
 | .st_VValue,(x:zg)=>by obtain⟨d,f⟩:=x;show zG _=_;simp only[zG,RF];rfl
 | .st_Vglue_start,x=>rfl
 | .st_Vnest_found,x=>rfl
 | .st_Vtoken_scanner,x=>rfl
 | .str,x=>rfl
 | .other,x=>by show List.replicate n (PV.at (Value.slice none 0 0))=(List.replicate n EV.nil).map (pvE I);rw[List.map_replicate];rfl
theorem zDy(n:Nat)(c:TC)(x:Ct c)(h:c≠ .other->n=size c):(eC n c x).length=n:=by
 cases c
 case other=>simp[eC]
 all_goals (rw[h (by simp)];rfl)
theorem zB0(n:Nat): ∀(c:TC) (x:Ct c),(eC n c x).all (Sm (I:=I))=true
 | .bool,x=>rfl
 | .int_i32,x=>rfl
 | .int_i64,x=>rfl
 | .int_u32,x=>rfl
 | .int_u64,x=>rfl
 | .int_u8,x=>rfl
 | .sl_119,x=>rfl
 | .sl_172,x=>rfl
 | .sl_23,x=>rfl
 | .sl_44,x=>rfl
 | .sl_49,x=>rfl
 | .sl_5,x=>rfl
 | .sl_66,x=>rfl
 | .sl_9,x=>rfl
 | .st_VArr12_str,x=>rfl
 | .st_VArr2_i64,x=>rfl
 | .st_VDecl,x=>rfl
 | .st_VToken,x=>rfl
 | .st_VValue,x=>rfl
 | .st_Vglue_start,x=>rfl
 | .st_Vnest_found,x=>rfl
 | .st_Vtoken_scanner,x=>rfl
 | .str,x=>rfl
 | .other,x=>by show(List.replicate n EV.nil).all (Sm (I:=I))=true;rw[Xa];intro v hv;rw[(List.mem_replicate.1 hv).2];rfl
theorem zEr:(tab.all fun p=>match p.2 with| .int_u8=>(match kdOf Tryz.prog p.1 with| .int .u8=>true|_=>false)|_=>true)=true:=by kernel_rfl
theorem zEC(t:Nat)(h:tc t= .int_u8):kdOf Tryz.prog t= .int .u8:=by
 unfold tc at h;cases hl:lk tab t with
 |none=>rw[hl]at h;cases h
 |some c=>
  rw[hl]at h;have h:c= .int_u8:=h;subst h;have:=Xa.1 zEr _ (Zg hl);simp only at d;split at d
  ·assumption
  ·cases d
theorem zBL(n:Nat): ∀(c:TC) (p:(List UInt8->List (Ct c))×(List (Ct c)->List UInt8)),bC c=some p->(∀l,(p.1 l).map (fC n c)=l.map fun b=>[PV.at (.int .u8 b.toNat)])/\(∀l,l.map (fC n c)=(p.2 l).map fun b=>[PV.at (.int .u8 b.toNat)])/\c= .int_u8:=by
 intro c p h;cases c
 case int_u8=>cases h;exact⟨fun l=>rfl,fun l=>rfl,rfl⟩
 all_goals cases h
theorem zDv(t:Nat)(p:(List UInt8->List (I.C t))×(List (I.C t)->List UInt8))(h:I.byt t=some p):(∀l,(p.1 l).map (I.full t)=l.map fun b=>[PV.at (.int .u8 b.toNat)])/\(∀l,l.map (I.full t)=(p.2 l).map fun b=>[PV.at (.int .u8 b.toNat)])/\kdOf Tryz.prog t= .int .u8:=by obtain⟨h1,h2,h3⟩:=zBL (Tryz.prog.cellsOf t) (tc t) p h;exact⟨h1,h2,zEC t h3⟩
theorem ipOK:IpOK Tryz.prog I where
 len:=fun t x=>by show(fC _ _ x).length=_;exact(congrArg List.length (fe _ (tc t) x)).trans ((Ra ..).trans (zDy _ (tc t) x (EY t)))
 exp:=fun t x=>fe _ _ x
 pur:=fun t x v hv=>Xa.1 (zB0 _ _ x) v hv
 made:=fun t cs x h=>decs (zCr _ _ cs x h)
 byt:=zDv
noncomputable def T:TT:=[(2,ti Tryz.prog 2),(3,ti Tryz.prog 3),(4,ti Tryz.prog 4),(5,ti Tryz.prog 5),(9,ti Tryz.prog 9),(12,ti Tryz.prog 12),(21,ti Tryz.prog 21),(22,ti Tryz.prog 22),(23,ti Tryz.prog 23),(25,ti Tryz.prog 25),(42,ti Tryz.prog 42),(44,ti Tryz.prog 44),(49,ti Tryz.prog 49),(52,ti Tryz.prog 52),(66,ti Tryz.prog 66),(71,ti Tryz.prog 71),(101,ti Tryz.prog 101),(116,ti Tryz.prog 116),(119,ti Tryz.prog 119),(122,ti Tryz.prog 122),(131,ti Tryz.prog 131),(133,ti Tryz.prog 133),(140,ti Tryz.prog 140),(149,ti Tryz.prog 149),(172,ti Tryz.prog 172),(174,ti Tryz.prog 174),(185,ti Tryz.prog 185),(217,ti Tryz.prog 217)]
def FK:List (Nat×List Kd):=[(44,[.int .u8, .str, .int .i64, .str, .bool])]
theorem tok:TOK Tryz.prog T FK:=zEs (l:=[2,3,4,5,9,12,21,22,23,25,42,44,49,52,66,71,101,116,119,122,131,133,140,149,172,174,185,217]) (by
 intro p hp;simp only[FK,ma,Ed,Bf]at hp;rcases hp with rfl<;>kernel_rfl)
theorem mixed:Tryz.prog.follows .mixedOrders=true:=by kernel_rfl
noncomputable def body(f:Go.Func):Code:=match f.body with|some c=>c|none=> .skip
noncomputable def rsl(f:Go.Func):List ResultVar:=f.results.toList
end Go.Lv.VT
