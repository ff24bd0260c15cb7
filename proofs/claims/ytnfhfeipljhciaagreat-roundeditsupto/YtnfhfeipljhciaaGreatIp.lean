/- What stands for the values of types. -/
import Derived.Test.YtnfhfeipljhciaaGreatProg
import Derived.Test.YtnfhfeipljhciaaGreatLf
import Derived.Test.YtnfhfeipljhciaaGreatTy
import Derived.KernelRfl
namespace Go.Lv.VT
set_option maxRecDepth 100000
open Go.Proofs
inductive TC where
 | bool | int_i64 | int_u8 | sl_137 | sl_140 | sl_144 | sl_2 | sl_29 | sl_32 | sl_35 | sl_5 | sl_87 | sl_9 | sl_97 | sl_99 | st_VAnb | st_VComplex | st_VCompound | st_VCond | st_VDecl | st_VRule | st_VSheet | st_VSimple | st_VToken | st_VValue | st_Vnest_found | st_Vref08_base | st_Vref08_place | st_Vruntime_boundsError | st_Vseltext_place | st_Vsheet_found | str | other
def Ct : TC → Type
 | .bool => Bool | .int_i64 => Int | .int_u8 => UInt8 | .sl_137 => List zb | .sl_140 => List zA | .sl_144 => List zy | .sl_2 => List Int | .sl_29 => List Zh | .sl_32 => List zk | .sl_35 => List zu | .sl_5 => List UInt8 | .sl_87 => List (List Str) | .sl_9 => List Str | .sl_97 => List zm | .sl_99 => List zf | .st_VAnb => VAnb | .st_VComplex => zb | .st_VCompound => zA | .st_VCond => zk | .st_VDecl => Zh | .st_VRule => zu | .st_VSheet => Zo | .st_VSimple => zy | .st_VToken => zm | .st_VValue => zf | .st_Vnest_found => zS | .st_Vref08_base => Qi | .st_Vref08_place => zK | .st_Vruntime_boundsError => Zu | .st_Vseltext_place => zn | .st_Vsheet_found => zo | .str => Str | .other => Unit
def tab : List (Nat × TC) := [(2, .int_i64), (3, .int_i64), (4, .bool), (5, .int_u8), (6, .int_u8), (7, .st_Vruntime_boundsError), (9, .str), (22, .sl_35), (24, .st_VSheet), (25, .sl_137), (26, .sl_29), (27, .sl_99), (29, .st_VDecl), (30, .sl_32), (32, .st_VCond), (33, .sl_87), (35, .st_VRule), (37, .int_i64), (64, .st_Vsheet_found), (87, .sl_9), (97, .st_VToken), (99, .st_VValue), (107, .sl_97), (113, .st_Vnest_found), (134, .sl_140), (135, .sl_5), (137, .st_VComplex), (138, .sl_144), (140, .st_VCompound), (142, .st_VAnb), (144, .st_VSimple), (148, .st_Vseltext_place), (197, .st_Vref08_place), (202, .sl_2), (208, .st_Vref08_base)]
def tc (t : Nat) : TC := match lk tab t with | some c => c | none => .other
def Cn (t : Nat) : Type := Ct (tc t)
def dC : (c : TC) → Ct c
 | .bool => (default : Bool) | .int_i64 => (default : Int) | .int_u8 => (default : UInt8) | .sl_137 => (default : List zb) | .sl_140 => (default : List zA) | .sl_144 => (default : List zy) | .sl_2 => (default : List Int) | .sl_29 => (default : List Zh) | .sl_32 => (default : List zk) | .sl_35 => (default : List zu) | .sl_5 => (default : List UInt8) | .sl_87 => (default : List (List Str)) | .sl_9 => (default : List Str) | .sl_97 => (default : List zm) | .sl_99 => (default : List zf) | .st_VAnb => (default : VAnb) | .st_VComplex => (default : zb) | .st_VCompound => (default : zA) | .st_VCond => (default : zk) | .st_VDecl => (default : Zh) | .st_VRule => (default : zu) | .st_VSheet => (default : Zo) | .st_VSimple => (default : zy) | .st_VToken => (default : zm) | .st_VValue => (default : zf) | .st_Vnest_found => (default : zS) | .st_Vref08_base => (default : Qi) | .st_Vref08_place => (default : zK) | .st_Vruntime_boundsError => (default : Zu) | .st_Vseltext_place => (default : zn) | .st_Vsheet_found => (default : zo) | .str => (default : Str) | .other => ()
def size : TC → Nat
 | .st_VAnb => 2 | .st_VComplex => 3 | .st_VCompound => 2 | .st_VCond => 7 | .st_VDecl => 3 | .st_VRule => 12 | .st_VSimple => 9 | .st_VToken => 5 | .st_VValue => 6 | .st_Vnest_found => 3 | .st_Vref08_base => 8 | .st_Vref08_place => 2 | .st_Vruntime_boundsError => 4 | .st_Vseltext_place => 2 | .st_Vsheet_found => 3 | _ => 1
def zCq (x : VAnb) : List PV := [.at (.int .i64 x.a), .at (.int .i64 x.b)]
mutual
def ze : zb → List PV
 | ⟨x_lead, x_parts, x_combs⟩ => [.at (.int .u8 x_lead), .sl (zbV x_parts), .sl (x_combs.map (fun y => [.at (.int .u8 y.toNat)]))]
def zcP : List zb → List (List PV)
 | [] => []
 | v :: r => ze v :: zcP r
def zI : zA → List PV
 | ⟨x_tag, x_simples⟩ => [.str x_tag, .sl (zd7 x_simples)]
def zbV : List zA → List (List PV)
 | [] => []
 | v :: r => zI v :: zbV r
def zO : zy → List PV
 | ⟨x_kind, x_name, x_op, x_value, x_fold, x_anb, x_of_, x_list⟩ => [.at (.int .u8 x_kind), .str x_name, .at (.int .u8 x_op), .str x_value, .at (.bool x_fold), .at (.int .i64 x_anb.a), .at (.int .i64 x_anb.b), .at (.bool x_of_), .sl (zcP x_list)]
def zd7 : List zy → List (List PV)
 | [] => []
 | v :: r => zO v :: zd7 r
end
theorem ZI : ∀ (l : List zb), zcP l = l.map ze
 | [] => by rw [zcP]; rfl
 | v :: r => by rw [zcP, ZI r]; rfl
theorem Zr : ∀ (l : List zA), zbV l = l.map zI
 | [] => by rw [zbV]; rfl
 | v :: r => by rw [zbV, Zr r]; rfl
theorem ZR : ∀ (l : List zy), zd7 l = l.map zO
 | [] => by rw [zd7]; rfl
 | v :: r => by rw [zd7, ZR r]; rfl
def zsj (x : zm) : List PV := [.at (.int .u8 x.kind), .str x.text, .at (.int .i64 x.num), .str x.unit, .at (.bool x.flag)]
mutual
def zU : zf → List PV
 | ⟨x_token, x_list⟩ => [.at (.int .u8 x_token.kind), .str x_token.text, .at (.int .i64 x_token.num), .str x_token.unit, .at (.bool x_token.flag), .sl (zfj x_list)]
def zfj : List zf → List (List PV)
 | [] => []
 | v :: r => zU v :: zfj r
end
theorem zdF : ∀ (l : List zf), zfj l = l.map zU
 | [] => by rw [zfj]; rfl
 | v :: r => by rw [zfj, zdF r]; rfl
def Zc (x : Zh) : List PV := [.str x.name, .sl (x.value.map zU), .at (.bool x.important)]
mutual
def zq : zk → List PV
 | ⟨x_kind, x_name, x_num, x_decl, x_list⟩ => [.at (.int .u8 x_kind), .str x_name, .at (.int .i64 x_num), .str x_decl.name, .sl (x_decl.value.map zU), .at (.bool x_decl.important), .sl (zgO x_list)]
def zgO : List zk → List (List PV)
 | [] => []
 | v :: r => zq v :: zgO r
end
theorem zeH : ∀ (l : List zk), zgO l = l.map zq
 | [] => by rw [zgO]; rfl
 | v :: r => by rw [zgO, zeH r]; rfl
mutual
def zh : zu → List PV
 | ⟨x_kind, x_selectors, x_decls, x_cond, x_names, x_rules⟩ => [.at (.int .u8 x_kind), .sl (x_selectors.map ze), .sl (x_decls.map Zc), .at (.int .u8 x_cond.kind), .str x_cond.name, .at (.int .i64 x_cond.num), .str x_cond.decl.name, .sl (x_cond.decl.value.map zU), .at (.bool x_cond.decl.important), .sl (x_cond.list.map zq), .sl (x_names.map (fun y => [.sl (y.map (fun y => [.str y]))])), .sl (zgP x_rules)]
def zgP : List zu → List (List PV)
 | [] => []
 | v :: r => zh v :: zgP r
end
theorem zeI : ∀ (l : List zu), zgP l = l.map zh
 | [] => by rw [zgP]; rfl
 | v :: r => by rw [zgP, zeI r]; rfl
def zdl (x : Zo) : List PV := [.sl (x.rules.map zh)]
def zpi (x : zS) : List PV := [.at (.int .i64 x.depth), .at (.int .i64 x.tokens), .at (.bool x.bad)]
def zpj (x : Qi) : List PV := [.at (.int .u8 x.kind), .str x.name, .at (.int .u8 x.op), .str x.value, .at (.bool x.fold), .at (.int .i64 x.anb.a), .at (.int .i64 x.anb.b), .at (.bool x.of_)]
def znI (x : zK) : List PV := [.at (.int .i64 x.deep), .at (.bool x.has)]
def zgQ (x : Zu) : List PV := [.at (.int .i64 x.x), .at (.int .i64 x.y), .at (.bool x.signed), .at (.int .u8 x.code)]
def zlh (x : zn) : List PV := [.at (.int .i64 x.deep), .at (.bool x.has)]
def znJ (x : zo) : List PV := [.at (.int .i64 x.rules), .at (.int .i64 x.depth), .at (.bool x.bad)]
theorem ziv (x_lead : Int) (x_parts : List zA) (x_combs : List UInt8) : ze ⟨x_lead, x_parts, x_combs⟩ = [.at (.int .u8 x_lead), .sl (x_parts.map zI), .sl (x_combs.map (fun y => [.at (.int .u8 y.toNat)]))] := by
 simp only [ze, ZI, Zr, ZR]
theorem zhW (x_tag : Str) (x_simples : List zy) : zI ⟨x_tag, x_simples⟩ = [.str x_tag, .sl (x_simples.map zO)] := by
 simp only [zI, ZI, Zr, ZR]
theorem zjT (x_kind : Int) (x_name : Str) (x_op : Int) (x_value : Str) (x_fold : Bool) (x_anb : VAnb) (x_of_ : Bool) (x_list : List zb) : zO ⟨x_kind, x_name, x_op, x_value, x_fold, x_anb, x_of_, x_list⟩ = [.at (.int .u8 x_kind), .str x_name, .at (.int .u8 x_op), .str x_value, .at (.bool x_fold), .at (.int .i64 x_anb.a), .at (.int .i64 x_anb.b), .at (.bool x_of_), .sl (x_list.map ze)] := by
 simp only [zO, ZI, Zr, ZR]
theorem zlg (x_token : zm) (x_list : List zf) : zU ⟨x_token, x_list⟩ = [.at (.int .u8 x_token.kind), .str x_token.text, .at (.int .i64 x_token.num), .str x_token.unit, .at (.bool x_token.flag), .sl (x_list.map zU)] := by
 simp only [zU, zdF]
theorem znt (x_kind : Int) (x_name : Str) (x_num : Int) (x_decl : Zh) (x_list : List zk) : zq ⟨x_kind, x_name, x_num, x_decl, x_list⟩ = [.at (.int .u8 x_kind), .str x_name, .at (.int .i64 x_num), .str x_decl.name, .sl (x_decl.value.map zU), .at (.bool x_decl.important), .sl (x_list.map zq)] := by
 simp only [zq, zeH]
theorem znu (x_kind : Int) (x_selectors : List zb) (x_decls : List Zh) (x_cond : zk) (x_names : List (List Str)) (x_rules : List zu) : zh ⟨x_kind, x_selectors, x_decls, x_cond, x_names, x_rules⟩ = [.at (.int .u8 x_kind), .sl (x_selectors.map ze), .sl (x_decls.map Zc), .at (.int .u8 x_cond.kind), .str x_cond.name, .at (.int .i64 x_cond.num), .str x_cond.decl.name, .sl (x_cond.decl.value.map zU), .at (.bool x_cond.decl.important), .sl (x_cond.list.map zq), .sl (x_names.map (fun y => [.sl (y.map (fun y => [.str y]))])), .sl (x_rules.map zh)] := by
 simp only [zh, zeI]
theorem znH (x : zb) : ze x = [.at (.int .u8 x.lead), .sl (x.parts.map zI), .sl (x.combs.map (fun y => [.at (.int .u8 y.toNat)]))] := by
 cases x
 exact ziv ..
theorem zmu (x : zA) : zI x = [.str x.tag, .sl (x.simples.map zO)] := by
 cases x
 exact zhW ..
theorem zph (x : zy) : zO x = [.at (.int .u8 x.kind), .str x.name, .at (.int .u8 x.op), .str x.value, .at (.bool x.fold), .at (.int .i64 x.anb.a), .at (.int .i64 x.anb.b), .at (.bool x.of_), .sl (x.list.map ze)] := by
 cases x
 exact zjT ..
theorem zq3 (x : zf) : zU x = [.at (.int .u8 x.token.kind), .str x.token.text, .at (.int .i64 x.token.num), .str x.token.unit, .at (.bool x.token.flag), .sl (x.list.map zU)] := by
 cases x
 exact zlg ..
theorem zlf (x : zk) : zq x = [.at (.int .u8 x.kind), .str x.name, .at (.int .i64 x.num), .str x.decl.name, .sl (x.decl.value.map zU), .at (.bool x.decl.important), .sl (x.list.map zq)] := by
 cases x
 exact znt ..
theorem ztg (x : zu) : zh x = [.at (.int .u8 x.kind), .sl (x.selectors.map ze), .sl (x.decls.map Zc), .at (.int .u8 x.cond.kind), .str x.cond.name, .at (.int .i64 x.cond.num), .str x.cond.decl.name, .sl (x.cond.decl.value.map zU), .at (.bool x.cond.decl.important), .sl (x.cond.list.map zq), .sl (x.names.map (fun y => [.sl (y.map (fun y => [.str y]))])), .sl (x.rules.map zh)] := by
 cases x
 exact znu ..
def fC (n : Nat) : (c : TC) → Ct c → List PV
 | .bool, (x : Bool) => [.at (.bool x)]
 | .int_i64, (x : Int) => [.at (.int .i64 x)]
 | .int_u8, (x : UInt8) => [.at (.int .u8 x.toNat)]
 | .sl_137, (x : List zb) => [.sl (x.map ze)]
 | .sl_140, (x : List zA) => [.sl (x.map zI)]
 | .sl_144, (x : List zy) => [.sl (x.map zO)]
 | .sl_2, (x : List Int) => [.sl (x.map (fun y => [.at (.int .i64 y)]))]
 | .sl_29, (x : List Zh) => [.sl (x.map Zc)]
 | .sl_32, (x : List zk) => [.sl (x.map zq)]
 | .sl_35, (x : List zu) => [.sl (x.map zh)]
 | .sl_5, (x : List UInt8) => [.sl (x.map (fun y => [.at (.int .u8 y.toNat)]))]
 | .sl_87, (x : List (List Str)) => [.sl (x.map (fun y => [.sl (y.map (fun y => [.str y]))]))]
 | .sl_9, (x : List Str) => [.sl (x.map (fun y => [.str y]))]
 | .sl_97, (x : List zm) => [.sl (x.map zsj)]
 | .sl_99, (x : List zf) => [.sl (x.map zU)]
 | .st_VAnb, (x : VAnb) => zCq x
 | .st_VComplex, (x : zb) => ze x
 | .st_VCompound, (x : zA) => zI x
 | .st_VCond, (x : zk) => zq x
 | .st_VDecl, (x : Zh) => Zc x
 | .st_VRule, (x : zu) => zh x
 | .st_VSheet, (x : Zo) => zdl x
 | .st_VSimple, (x : zy) => zO x
 | .st_VToken, (x : zm) => zsj x
 | .st_VValue, (x : zf) => zU x
 | .st_Vnest_found, (x : zS) => zpi x
 | .st_Vref08_base, (x : Qi) => zpj x
 | .st_Vref08_place, (x : zK) => znI x
 | .st_Vruntime_boundsError, (x : Zu) => zgQ x
 | .st_Vseltext_place, (x : zn) => zlh x
 | .st_Vsheet_found, (x : zo) => znJ x
 | .str, (x : Str) => [.str x]
 | .other, _ => List.replicate n (.at (.slice none 0 0))
def eC (n : Nat) : (c : TC) → Ct c → List (EV Cn)
 | .bool, (x : Bool) => [.bool x]
 | .int_i64, (x : Int) => [.int .i64 x]
 | .int_u8, (x : UInt8) => [.int .u8 (x.toNat : Int)]
 | .sl_137, (x : List zb) => [.sl 137 x]
 | .sl_140, (x : List zA) => [.sl 140 x]
 | .sl_144, (x : List zy) => [.sl 144 x]
 | .sl_2, (x : List Int) => [.sl 2 x]
 | .sl_29, (x : List Zh) => [.sl 29 x]
 | .sl_32, (x : List zk) => [.sl 32 x]
 | .sl_35, (x : List zu) => [.sl 35 x]
 | .sl_5, (x : List UInt8) => [.sl 5 x]
 | .sl_87, (x : List (List Str)) => [.sl 87 x]
 | .sl_9, (x : List Str) => [.sl 9 x]
 | .sl_97, (x : List zm) => [.sl 97 x]
 | .sl_99, (x : List zf) => [.sl 99 x]
 | .st_VAnb, (x : VAnb) => [.int .i64 x.a, .int .i64 x.b]
 | .st_VComplex, (x : zb) => [.int .u8 x.lead, .sl 140 x.parts, .sl 5 x.combs]
 | .st_VCompound, (x : zA) => [.str x.tag, .sl 144 x.simples]
 | .st_VCond, (x : zk) => [.int .u8 x.kind, .str x.name, .int .i64 x.num, .str x.decl.name, .sl 99 x.decl.value, .bool x.decl.important, .sl 32 x.list]
 | .st_VDecl, (x : Zh) => [.str x.name, .sl 99 x.value, .bool x.important]
 | .st_VRule, (x : zu) => [.int .u8 x.kind, .sl 137 x.selectors, .sl 29 x.decls, .int .u8 x.cond.kind, .str x.cond.name, .int .i64 x.cond.num, .str x.cond.decl.name, .sl 99 x.cond.decl.value, .bool x.cond.decl.important, .sl 32 x.cond.list, .sl 87 x.names, .sl 35 x.rules]
 | .st_VSheet, (x : Zo) => [.sl 35 x.rules]
 | .st_VSimple, (x : zy) => [.int .u8 x.kind, .str x.name, .int .u8 x.op, .str x.value, .bool x.fold, .int .i64 x.anb.a, .int .i64 x.anb.b, .bool x.of_, .sl 137 x.list]
 | .st_VToken, (x : zm) => [.int .u8 x.kind, .str x.text, .int .i64 x.num, .str x.unit, .bool x.flag]
 | .st_VValue, (x : zf) => [.int .u8 x.token.kind, .str x.token.text, .int .i64 x.token.num, .str x.token.unit, .bool x.token.flag, .sl 99 x.list]
 | .st_Vnest_found, (x : zS) => [.int .i64 x.depth, .int .i64 x.tokens, .bool x.bad]
 | .st_Vref08_base, (x : Qi) => [.int .u8 x.kind, .str x.name, .int .u8 x.op, .str x.value, .bool x.fold, .int .i64 x.anb.a, .int .i64 x.anb.b, .bool x.of_]
 | .st_Vref08_place, (x : zK) => [.int .i64 x.deep, .bool x.has]
 | .st_Vruntime_boundsError, (x : Zu) => [.int .i64 x.x, .int .i64 x.y, .bool x.signed, .int .u8 x.code]
 | .st_Vseltext_place, (x : zn) => [.int .i64 x.deep, .bool x.has]
 | .st_Vsheet_found, (x : zo) => [.int .i64 x.rules, .int .i64 x.depth, .bool x.bad]
 | .str, (x : Str) => [.str x]
 | .other, _ => List.replicate n .nil
def qx : EV Cn → Option Int
 | .int .i64 n => some n
 | _ => none
def zcO : EV Cn → Option Int
 | .int .u8 n => some n
 | _ => none
def zit : EV Cn → Option Bool
 | .bool b => some b
 | _ => none
def dStr : EV Cn → Option Str
 | .str l => some l
 | _ => none
def zDT : EV Cn → Option (List Int)
 | .nil => some []
 | .sl 2 l => some l
 | _ => none
def zCg : EV Cn → Option (List UInt8)
 | .nil => some []
 | .sl 5 l => some l
 | _ => none
def zDU : EV Cn → Option (List Str)
 | .nil => some []
 | .sl 9 l => some l
 | _ => none
def zx6 : EV Cn → Option (List Zh)
 | .nil => some []
 | .sl 29 l => some l
 | _ => none
def zvo : EV Cn → Option (List zk)
 | .nil => some []
 | .sl 32 l => some l
 | _ => none
def zvp : EV Cn → Option (List zu)
 | .nil => some []
 | .sl 35 l => some l
 | _ => none
def zx8 : EV Cn → Option (List (List Str))
 | .nil => some []
 | .sl 87 l => some l
 | _ => none
def zAe : EV Cn → Option (List zm)
 | .nil => some []
 | .sl 97 l => some l
 | _ => none
def zpa : EV Cn → Option (List zf)
 | .nil => some []
 | .sl 99 l => some l
 | _ => none
def zo7 : EV Cn → Option (List zb)
 | .nil => some []
 | .sl 137 l => some l
 | _ => none
def ztc : EV Cn → Option (List zA)
 | .nil => some []
 | .sl 140 l => some l
 | _ => none
def ztd : EV Cn → Option (List zy)
 | .nil => some []
 | .sl 144 l => some l
 | _ => none
def mC : (c : TC) → List (EV Cn) → Option (Ct c)
 | .bool => fun cs => match cs with | [a0] => (zit a0).bind fun x0 => some x0 | _ => none
 | .int_i64 => fun cs => match cs with | [a0] => (qx a0).bind fun x0 => some x0 | _ => none
 | .int_u8 => fun cs => match cs with | [a0] => (zcO a0).bind zbM | _ => none
 | .sl_137 => fun cs => match cs with | [a0] => (zo7 a0).bind fun x0 => some x0 | _ => none
 | .sl_140 => fun cs => match cs with | [a0] => (ztc a0).bind fun x0 => some x0 | _ => none
 | .sl_144 => fun cs => match cs with | [a0] => (ztd a0).bind fun x0 => some x0 | _ => none
 | .sl_2 => fun cs => match cs with | [a0] => (zDT a0).bind fun x0 => some x0 | _ => none
 | .sl_29 => fun cs => match cs with | [a0] => (zx6 a0).bind fun x0 => some x0 | _ => none
 | .sl_32 => fun cs => match cs with | [a0] => (zvo a0).bind fun x0 => some x0 | _ => none
 | .sl_35 => fun cs => match cs with | [a0] => (zvp a0).bind fun x0 => some x0 | _ => none
 | .sl_5 => fun cs => match cs with | [a0] => (zCg a0).bind fun x0 => some x0 | _ => none
 | .sl_87 => fun cs => match cs with | [a0] => (zx8 a0).bind fun x0 => some x0 | _ => none
 | .sl_9 => fun cs => match cs with | [a0] => (zDU a0).bind fun x0 => some x0 | _ => none
 | .sl_97 => fun cs => match cs with | [a0] => (zAe a0).bind fun x0 => some x0 | _ => none
 | .sl_99 => fun cs => match cs with | [a0] => (zpa a0).bind fun x0 => some x0 | _ => none
 | .st_VAnb => fun cs => match cs with | [a0, a1] => (qx a0).bind fun x0 => (qx a1).bind fun x1 => some (⟨x0, x1⟩ : VAnb) | _ => none
 | .st_VComplex => fun cs => match cs with | [a0, a1, a2] => (zcO a0).bind fun x0 => (ztc a1).bind fun x1 => (zCg a2).bind fun x2 => some (⟨x0, x1, x2⟩ : zb) | _ => none
 | .st_VCompound => fun cs => match cs with | [a0, a1] => (dStr a0).bind fun x0 => (ztd a1).bind fun x1 => some (⟨x0, x1⟩ : zA) | _ => none
 | .st_VCond => fun cs => match cs with | [a0, a1, a2, a3, a4, a5, a6] => (zcO a0).bind fun x0 => (dStr a1).bind fun x1 => (qx a2).bind fun x2 => (dStr a3).bind fun x3 => (zpa a4).bind fun x4 => (zit a5).bind fun x5 => (zvo a6).bind fun x6 => some (⟨x0, x1, x2, (⟨x3, x4, x5⟩ : Zh), x6⟩ : zk) | _ => none
 | .st_VDecl => fun cs => match cs with | [a0, a1, a2] => (dStr a0).bind fun x0 => (zpa a1).bind fun x1 => (zit a2).bind fun x2 => some (⟨x0, x1, x2⟩ : Zh) | _ => none
 | .st_VRule => fun cs => match cs with | [a0, a1, a2, a3, a4, a5, a6, a7, a8, a9, a10, a11] => (zcO a0).bind fun x0 => (zo7 a1).bind fun x1 => (zx6 a2).bind fun x2 => (zcO a3).bind fun x3 => (dStr a4).bind fun x4 => (qx a5).bind fun x5 => (dStr a6).bind fun x6 => (zpa a7).bind fun x7 => (zit a8).bind fun x8 => (zvo a9).bind fun x9 => (zx8 a10).bind fun x10 => (zvp a11).bind fun x11 => some (⟨x0, x1, x2, (⟨x3, x4, x5, (⟨x6, x7, x8⟩ : Zh), x9⟩ : zk), x10, x11⟩ : zu) | _ => none
 | .st_VSheet => fun cs => match cs with | [a0] => (zvp a0).bind fun x0 => some (⟨x0⟩ : Zo) | _ => none
 | .st_VSimple => fun cs => match cs with | [a0, a1, a2, a3, a4, a5, a6, a7, a8] => (zcO a0).bind fun x0 => (dStr a1).bind fun x1 => (zcO a2).bind fun x2 => (dStr a3).bind fun x3 => (zit a4).bind fun x4 => (qx a5).bind fun x5 => (qx a6).bind fun x6 => (zit a7).bind fun x7 => (zo7 a8).bind fun x8 => some (⟨x0, x1, x2, x3, x4, (⟨x5, x6⟩ : VAnb), x7, x8⟩ : zy) | _ => none
 | .st_VToken => fun cs => match cs with | [a0, a1, a2, a3, a4] => (zcO a0).bind fun x0 => (dStr a1).bind fun x1 => (qx a2).bind fun x2 => (dStr a3).bind fun x3 => (zit a4).bind fun x4 => some (⟨x0, x1, x2, x3, x4⟩ : zm) | _ => none
 | .st_VValue => fun cs => match cs with | [a0, a1, a2, a3, a4, a5] => (zcO a0).bind fun x0 => (dStr a1).bind fun x1 => (qx a2).bind fun x2 => (dStr a3).bind fun x3 => (zit a4).bind fun x4 => (zpa a5).bind fun x5 => some (⟨(⟨x0, x1, x2, x3, x4⟩ : zm), x5⟩ : zf) | _ => none
 | .st_Vnest_found => fun cs => match cs with | [a0, a1, a2] => (qx a0).bind fun x0 => (qx a1).bind fun x1 => (zit a2).bind fun x2 => some (⟨x0, x1, x2⟩ : zS) | _ => none
 | .st_Vref08_base => fun cs => match cs with | [a0, a1, a2, a3, a4, a5, a6, a7] => (zcO a0).bind fun x0 => (dStr a1).bind fun x1 => (zcO a2).bind fun x2 => (dStr a3).bind fun x3 => (zit a4).bind fun x4 => (qx a5).bind fun x5 => (qx a6).bind fun x6 => (zit a7).bind fun x7 => some (⟨x0, x1, x2, x3, x4, (⟨x5, x6⟩ : VAnb), x7⟩ : Qi) | _ => none
 | .st_Vref08_place => fun cs => match cs with | [a0, a1] => (qx a0).bind fun x0 => (zit a1).bind fun x1 => some (⟨x0, x1⟩ : zK) | _ => none
 | .st_Vruntime_boundsError => fun cs => match cs with | [a0, a1, a2, a3] => (qx a0).bind fun x0 => (qx a1).bind fun x1 => (zit a2).bind fun x2 => (zcO a3).bind fun x3 => some (⟨x0, x1, x2, x3⟩ : Zu) | _ => none
 | .st_Vseltext_place => fun cs => match cs with | [a0, a1] => (qx a0).bind fun x0 => (zit a1).bind fun x1 => some (⟨x0, x1⟩ : zn) | _ => none
 | .st_Vsheet_found => fun cs => match cs with | [a0, a1, a2] => (qx a0).bind fun x0 => (qx a1).bind fun x1 => (zit a2).bind fun x2 => some (⟨x0, x1, x2⟩ : zo) | _ => none
 | .str => fun cs => match cs with | [a0] => (dStr a0).bind fun x0 => some x0 | _ => none
 | .other => fun _ => none
def bC : (c : TC) → Option ((List UInt8 → List (Ct c)) × (List (Ct c) → List UInt8))
 | .int_u8 => some (fun l => l, fun l => l)
 | _ => none
noncomputable def I : Ip := ⟨Cn, fun t => dC (tc t), fun t => eC (Tryz.prog.cellsOf t) (tc t), fun t => mC (tc t), fun t => fC (Tryz.prog.cellsOf t) (tc t), fun t => bC (tc t)⟩
theorem zE4 : (tab.all fun p => Nat.beq (Tryz.prog.cellsOf p.1) (size p.2)) = true := by kernel_rfl
theorem zCa (t : Nat) (h : tc t ≠ .other) : Tryz.prog.cellsOf t = size (tc t) := by
 unfold tc at h ⊢
 cases hl : lk tab t with
 | none => rw [hl] at h; exact absurd rfl h
 | some c =>
  simp only
  exact Nat.eq_of_beq_eq_true (List.all_eq_true.1 zE4 _ (Zv hl))
def Dec (a : EV Cn) (p : PV) : Prop := zwo (I := I) a = true ∧ WkP (pvE I a) p
theorem decs {cs : List (EV Cn)} {ps : List PV} (h : All2 Dec cs ps) : (∀ v ∈ cs, zwo (I := I) v = true) ∧ cs.length = ps.length ∧ ∀ (j : Nat) (a b : PV), (cs.map (pvE I))[j]? = some a → ps[j]? = some b → WkP a b := by
 induction h with
 | nil => exact ⟨fun v hv => (by cases hv), rfl, fun j a b ha => (by cases ha)⟩
 | cons h1 _ ih =>
  refine ⟨fun v hv => ?_, congrArg Nat.succ ih.2.1, fun j a b ha hb => ?_⟩
  ·rcases List.mem_cons.1 hv with rfl | hv
   ·exact h1.1
   ·exact ih.1 v hv
  ·cases j with
   | zero => injection ha with ha; injection hb with hb; rw [← ha, ← hb]; exact h1.2
   | succ j => exact ih.2.2 j a b ha hb
theorem Zn {a : EV Cn} {x : Int} (h : qx a = some x) : Dec a (.at (.int .i64 x)) := by
 unfold qx at h
 split at h
 ·cases h; exact ⟨rfl, .refl _⟩
 ·cases h
theorem Qt {a : EV Cn} {x : Int} (h : zcO a = some x) : Dec a (.at (.int .u8 x)) := by
 unfold zcO at h
 split at h
 ·cases h; exact ⟨rfl, .refl _⟩
 ·cases h
theorem zaB {a : EV Cn} {x : Bool} (h : zit a = some x) : Dec a (.at (.bool x)) := by
 unfold zit at h
 split at h
 ·cases h; exact ⟨rfl, .refl _⟩
 ·cases h
theorem zb9 {a : EV Cn} {x : Str} (h : dStr a = some x) : Dec a (.str x) := by
 unfold dStr at h
 split at h
 ·cases h; exact ⟨rfl, .refl _⟩
 ·cases h
theorem zCf {a : EV Cn} {x : List Int} (h : zDT a = some x) : Dec a (.sl (x.map (I.full 2))) := by
 unfold zDT at h
 split at h
 ·cases h; exact ⟨rfl, .nil⟩
 ·cases h; exact ⟨rfl, .refl _⟩
 ·cases h
theorem zx7 {a : EV Cn} {x : List UInt8} (h : zCg a = some x) : Dec a (.sl (x.map (I.full 5))) := by
 unfold zCg at h
 split at h
 ·cases h; exact ⟨rfl, .nil⟩
 ·cases h; exact ⟨rfl, .refl _⟩
 ·cases h
theorem zCh {a : EV Cn} {x : List Str} (h : zDU a = some x) : Dec a (.sl (x.map (I.full 9))) := by
 unfold zDU at h
 split at h
 ·cases h; exact ⟨rfl, .nil⟩
 ·cases h; exact ⟨rfl, .refl _⟩
 ·cases h
theorem zvn {a : EV Cn} {x : List Zh} (h : zx6 a = some x) : Dec a (.sl (x.map (I.full 29))) := by
 unfold zx6 at h
 split at h
 ·cases h; exact ⟨rfl, .nil⟩
 ·cases h; exact ⟨rfl, .refl _⟩
 ·cases h
theorem zo8 {a : EV Cn} {x : List zk} (h : zvo a = some x) : Dec a (.sl (x.map (I.full 32))) := by
 unfold zvo at h
 split at h
 ·cases h; exact ⟨rfl, .nil⟩
 ·cases h; exact ⟨rfl, .refl _⟩
 ·cases h
theorem zo9 {a : EV Cn} {x : List zu} (h : zvp a = some x) : Dec a (.sl (x.map (I.full 35))) := by
 unfold zvp at h
 split at h
 ·cases h; exact ⟨rfl, .nil⟩
 ·cases h; exact ⟨rfl, .refl _⟩
 ·cases h
theorem zvq {a : EV Cn} {x : List (List Str)} (h : zx8 a = some x) : Dec a (.sl (x.map (I.full 87))) := by
 unfold zx8 at h
 split at h
 ·cases h; exact ⟨rfl, .nil⟩
 ·cases h; exact ⟨rfl, .refl _⟩
 ·cases h
theorem zAf {a : EV Cn} {x : List zm} (h : zAe a = some x) : Dec a (.sl (x.map (I.full 97))) := by
 unfold zAe at h
 split at h
 ·cases h; exact ⟨rfl, .nil⟩
 ·cases h; exact ⟨rfl, .refl _⟩
 ·cases h
theorem ziu {a : EV Cn} {x : List zf} (h : zpa a = some x) : Dec a (.sl (x.map (I.full 99))) := by
 unfold zpa at h
 split at h
 ·cases h; exact ⟨rfl, .nil⟩
 ·cases h; exact ⟨rfl, .refl _⟩
 ·cases h
theorem zms {a : EV Cn} {x : List zb} (h : zo7 a = some x) : Dec a (.sl (x.map (I.full 137))) := by
 unfold zo7 at h
 split at h
 ·cases h; exact ⟨rfl, .nil⟩
 ·cases h; exact ⟨rfl, .refl _⟩
 ·cases h
theorem zsg {a : EV Cn} {x : List zA} (h : ztc a = some x) : Dec a (.sl (x.map (I.full 140))) := by
 unfold ztc at h
 split at h
 ·cases h; exact ⟨rfl, .nil⟩
 ·cases h; exact ⟨rfl, .refl _⟩
 ·cases h
theorem zsh {a : EV Cn} {x : List zy} (h : ztd a = some x) : Dec a (.sl (x.map (I.full 144))) := by
 unfold ztd at h
 split at h
 ·cases h; exact ⟨rfl, .nil⟩
 ·cases h; exact ⟨rfl, .refl _⟩
 ·cases h
theorem zEi (n : Nat) : ∀ (c : TC) (cs : List (EV Cn)) (x : Ct c), mC c cs = some x → All2 Dec cs (fC n c x)
 | .bool, cs, x, h => by
  simp only [mC] at h
  split at h
  ·obtain ⟨x0, h0, h⟩ := Option.bind_eq_some_iff.1 h
   injection h with h
   subst h
   exact .cons (zaB h0) .nil
  ·cases h
 | .int_i64, cs, x, h => by
  simp only [mC] at h
  split at h
  ·obtain ⟨x0, h0, h⟩ := Option.bind_eq_some_iff.1 h
   injection h with h
   subst h
   exact .cons (Zn h0) .nil
  ·cases h
 | .int_u8, cs, x, h => by
  simp only [mC] at h
  split at h
  ·obtain ⟨x0, h0, h⟩ := Option.bind_eq_some_iff.1 h
   have := zzT h
   subst this
   exact .cons (Qt h0) .nil
  ·cases h
 | .sl_137, cs, x, h => by
  simp only [mC] at h
  split at h
  ·obtain ⟨x0, h0, h⟩ := Option.bind_eq_some_iff.1 h
   injection h with h
   subst h
   exact .cons (zms h0) .nil
  ·cases h
 | .sl_140, cs, x, h => by
  simp only [mC] at h
  split at h
  ·obtain ⟨x0, h0, h⟩ := Option.bind_eq_some_iff.1 h
   injection h with h
   subst h
   exact .cons (zsg h0) .nil
  ·cases h
 | .sl_144, cs, x, h => by
  simp only [mC] at h
  split at h
  ·obtain ⟨x0, h0, h⟩ := Option.bind_eq_some_iff.1 h
   injection h with h
   subst h
   exact .cons (zsh h0) .nil
  ·cases h
 | .sl_2, cs, x, h => by
  simp only [mC] at h
  split at h
  ·obtain ⟨x0, h0, h⟩ := Option.bind_eq_some_iff.1 h
   injection h with h
   subst h
   exact .cons (zCf h0) .nil
  ·cases h
 | .sl_29, cs, x, h => by
  simp only [mC] at h
  split at h
  ·obtain ⟨x0, h0, h⟩ := Option.bind_eq_some_iff.1 h
   injection h with h
   subst h
   exact .cons (zvn h0) .nil
  ·cases h
 | .sl_32, cs, x, h => by
  simp only [mC] at h
  split at h
  ·obtain ⟨x0, h0, h⟩ := Option.bind_eq_some_iff.1 h
   injection h with h
   subst h
   exact .cons (zo8 h0) .nil
  ·cases h
 | .sl_35, cs, x, h => by
  simp only [mC] at h
  split at h
  ·obtain ⟨x0, h0, h⟩ := Option.bind_eq_some_iff.1 h
   injection h with h
   subst h
   exact .cons (zo9 h0) .nil
  ·cases h
 | .sl_5, cs, x, h => by
  simp only [mC] at h
  split at h
  ·obtain ⟨x0, h0, h⟩ := Option.bind_eq_some_iff.1 h
   injection h with h
   subst h
   exact .cons (zx7 h0) .nil
  ·cases h
 | .sl_87, cs, x, h => by
  simp only [mC] at h
  split at h
  ·obtain ⟨x0, h0, h⟩ := Option.bind_eq_some_iff.1 h
   injection h with h
   subst h
   exact .cons (zvq h0) .nil
  ·cases h
 | .sl_9, cs, x, h => by
  simp only [mC] at h
  split at h
  ·obtain ⟨x0, h0, h⟩ := Option.bind_eq_some_iff.1 h
   injection h with h
   subst h
   exact .cons (zCh h0) .nil
  ·cases h
 | .sl_97, cs, x, h => by
  simp only [mC] at h
  split at h
  ·obtain ⟨x0, h0, h⟩ := Option.bind_eq_some_iff.1 h
   injection h with h
   subst h
   exact .cons (zAf h0) .nil
  ·cases h
 | .sl_99, cs, x, h => by
  simp only [mC] at h
  split at h
  ·obtain ⟨x0, h0, h⟩ := Option.bind_eq_some_iff.1 h
   injection h with h
   subst h
   exact .cons (ziu h0) .nil
  ·cases h
 | .st_VAnb, cs, x, h => by
  simp only [mC] at h
  split at h
  ·obtain ⟨x0, h0, h⟩ := Option.bind_eq_some_iff.1 h
   obtain ⟨x1, h1, h⟩ := Option.bind_eq_some_iff.1 h
   injection h with h
   subst h
   exact .cons (Zn h0) (.cons (Zn h1) .nil)
  ·cases h
 | .st_VComplex, cs, x, h => by
  simp only [mC] at h
  split at h
  ·obtain ⟨x0, h0, h⟩ := Option.bind_eq_some_iff.1 h
   obtain ⟨x1, h1, h⟩ := Option.bind_eq_some_iff.1 h
   obtain ⟨x2, h2, h⟩ := Option.bind_eq_some_iff.1 h
   injection h with h
   subst h
   show All2 Dec _ (ze _)
   simp only [ze, ZI, Zr, ZR]
   exact .cons (Qt h0) (.cons (zsg h1) (.cons (zx7 h2) .nil))
  ·cases h
 | .st_VCompound, cs, x, h => by
  simp only [mC] at h
  split at h
  ·obtain ⟨x0, h0, h⟩ := Option.bind_eq_some_iff.1 h
   obtain ⟨x1, h1, h⟩ := Option.bind_eq_some_iff.1 h
   injection h with h
   subst h
   show All2 Dec _ (zI _)
   simp only [zI, ZI, Zr, ZR]
   exact .cons (zb9 h0) (.cons (zsh h1) .nil)
  ·cases h
 | .st_VCond, cs, x, h => by
  simp only [mC] at h
  split at h
  ·obtain ⟨x0, h0, h⟩ := Option.bind_eq_some_iff.1 h
   obtain ⟨x1, h1, h⟩ := Option.bind_eq_some_iff.1 h
   obtain ⟨x2, h2, h⟩ := Option.bind_eq_some_iff.1 h
   obtain ⟨x3, h3, h⟩ := Option.bind_eq_some_iff.1 h
   obtain ⟨x4, h4, h⟩ := Option.bind_eq_some_iff.1 h
   obtain ⟨x5, h5, h⟩ := Option.bind_eq_some_iff.1 h
   obtain ⟨x6, h6, h⟩ := Option.bind_eq_some_iff.1 h
   injection h with h
   subst h
   show All2 Dec _ (zq _)
   simp only [zq, zeH]
   exact .cons (Qt h0) (.cons (zb9 h1) (.cons (Zn h2) (.cons (zb9 h3) (.cons (ziu h4) (.cons (zaB h5) (.cons (zo8 h6) .nil))))))
  ·cases h
 | .st_VDecl, cs, x, h => by
  simp only [mC] at h
  split at h
  ·obtain ⟨x0, h0, h⟩ := Option.bind_eq_some_iff.1 h
   obtain ⟨x1, h1, h⟩ := Option.bind_eq_some_iff.1 h
   obtain ⟨x2, h2, h⟩ := Option.bind_eq_some_iff.1 h
   injection h with h
   subst h
   exact .cons (zb9 h0) (.cons (ziu h1) (.cons (zaB h2) .nil))
  ·cases h
 | .st_VRule, cs, x, h => by
  simp only [mC] at h
  split at h
  ·obtain ⟨x0, h0, h⟩ := Option.bind_eq_some_iff.1 h
   obtain ⟨x1, h1, h⟩ := Option.bind_eq_some_iff.1 h
   obtain ⟨x2, h2, h⟩ := Option.bind_eq_some_iff.1 h
   obtain ⟨x3, h3, h⟩ := Option.bind_eq_some_iff.1 h
   obtain ⟨x4, h4, h⟩ := Option.bind_eq_some_iff.1 h
   obtain ⟨x5, h5, h⟩ := Option.bind_eq_some_iff.1 h
   obtain ⟨x6, h6, h⟩ := Option.bind_eq_some_iff.1 h
   obtain ⟨x7, h7, h⟩ := Option.bind_eq_some_iff.1 h
   obtain ⟨x8, h8, h⟩ := Option.bind_eq_some_iff.1 h
   obtain ⟨x9, h9, h⟩ := Option.bind_eq_some_iff.1 h
   obtain ⟨x10, h10, h⟩ := Option.bind_eq_some_iff.1 h
   obtain ⟨x11, h11, h⟩ := Option.bind_eq_some_iff.1 h
   injection h with h
   subst h
   show All2 Dec _ (zh _)
   simp only [zh, zeI]
   exact .cons (Qt h0) (.cons (zms h1) (.cons (zvn h2) (.cons (Qt h3) (.cons (zb9 h4) (.cons (Zn h5) (.cons (zb9 h6) (.cons (ziu h7) (.cons (zaB h8) (.cons (zo8 h9) (.cons (zvq h10) (.cons (zo9 h11) .nil)))))))))))
  ·cases h
 | .st_VSheet, cs, x, h => by
  simp only [mC] at h
  split at h
  ·obtain ⟨x0, h0, h⟩ := Option.bind_eq_some_iff.1 h
   injection h with h
   subst h
   exact .cons (zo9 h0) .nil
  ·cases h
 | .st_VSimple, cs, x, h => by
  simp only [mC] at h
  split at h
  ·obtain ⟨x0, h0, h⟩ := Option.bind_eq_some_iff.1 h
   obtain ⟨x1, h1, h⟩ := Option.bind_eq_some_iff.1 h
   obtain ⟨x2, h2, h⟩ := Option.bind_eq_some_iff.1 h
   obtain ⟨x3, h3, h⟩ := Option.bind_eq_some_iff.1 h
   obtain ⟨x4, h4, h⟩ := Option.bind_eq_some_iff.1 h
   obtain ⟨x5, h5, h⟩ := Option.bind_eq_some_iff.1 h
   obtain ⟨x6, h6, h⟩ := Option.bind_eq_some_iff.1 h
   obtain ⟨x7, h7, h⟩ := Option.bind_eq_some_iff.1 h
   obtain ⟨x8, h8, h⟩ := Option.bind_eq_some_iff.1 h
   injection h with h
   subst h
   show All2 Dec _ (zO _)
   simp only [zO, ZI, Zr, ZR]
   exact .cons (Qt h0) (.cons (zb9 h1) (.cons (Qt h2) (.cons (zb9 h3) (.cons (zaB h4) (.cons (Zn h5) (.cons (Zn h6) (.cons (zaB h7) (.cons (zms h8) .nil))))))))
  ·cases h
 | .st_VToken, cs, x, h => by
  simp only [mC] at h
  split at h
  ·obtain ⟨x0, h0, h⟩ := Option.bind_eq_some_iff.1 h
   obtain ⟨x1, h1, h⟩ := Option.bind_eq_some_iff.1 h
   obtain ⟨x2, h2, h⟩ := Option.bind_eq_some_iff.1 h
   obtain ⟨x3, h3, h⟩ := Option.bind_eq_some_iff.1 h
   obtain ⟨x4, h4, h⟩ := Option.bind_eq_some_iff.1 h
   injection h with h
   subst h
   exact .cons (Qt h0) (.cons (zb9 h1) (.cons (Zn h2) (.cons (zb9 h3) (.cons (zaB h4) .nil))))
  ·cases h
 | .st_VValue, cs, x, h => by
  simp only [mC] at h
  split at h
  ·obtain ⟨x0, h0, h⟩ := Option.bind_eq_some_iff.1 h
   obtain ⟨x1, h1, h⟩ := Option.bind_eq_some_iff.1 h
   obtain ⟨x2, h2, h⟩ := Option.bind_eq_some_iff.1 h
   obtain ⟨x3, h3, h⟩ := Option.bind_eq_some_iff.1 h
   obtain ⟨x4, h4, h⟩ := Option.bind_eq_some_iff.1 h
   obtain ⟨x5, h5, h⟩ := Option.bind_eq_some_iff.1 h
   injection h with h
   subst h
   show All2 Dec _ (zU _)
   simp only [zU, zdF]
   exact .cons (Qt h0) (.cons (zb9 h1) (.cons (Zn h2) (.cons (zb9 h3) (.cons (zaB h4) (.cons (ziu h5) .nil)))))
  ·cases h
 | .st_Vnest_found, cs, x, h => by
  simp only [mC] at h
  split at h
  ·obtain ⟨x0, h0, h⟩ := Option.bind_eq_some_iff.1 h
   obtain ⟨x1, h1, h⟩ := Option.bind_eq_some_iff.1 h
   obtain ⟨x2, h2, h⟩ := Option.bind_eq_some_iff.1 h
   injection h with h
   subst h
   exact .cons (Zn h0) (.cons (Zn h1) (.cons (zaB h2) .nil))
  ·cases h
 | .st_Vref08_base, cs, x, h => by
  simp only [mC] at h
  split at h
  ·obtain ⟨x0, h0, h⟩ := Option.bind_eq_some_iff.1 h
   obtain ⟨x1, h1, h⟩ := Option.bind_eq_some_iff.1 h
   obtain ⟨x2, h2, h⟩ := Option.bind_eq_some_iff.1 h
   obtain ⟨x3, h3, h⟩ := Option.bind_eq_some_iff.1 h
   obtain ⟨x4, h4, h⟩ := Option.bind_eq_some_iff.1 h
   obtain ⟨x5, h5, h⟩ := Option.bind_eq_some_iff.1 h
   obtain ⟨x6, h6, h⟩ := Option.bind_eq_some_iff.1 h
   obtain ⟨x7, h7, h⟩ := Option.bind_eq_some_iff.1 h
   injection h with h
   subst h
   exact .cons (Qt h0) (.cons (zb9 h1) (.cons (Qt h2) (.cons (zb9 h3) (.cons (zaB h4) (.cons (Zn h5) (.cons (Zn h6) (.cons (zaB h7) .nil)))))))
  ·cases h
 | .st_Vref08_place, cs, x, h => by
  simp only [mC] at h
  split at h
  ·obtain ⟨x0, h0, h⟩ := Option.bind_eq_some_iff.1 h
   obtain ⟨x1, h1, h⟩ := Option.bind_eq_some_iff.1 h
   injection h with h
   subst h
   exact .cons (Zn h0) (.cons (zaB h1) .nil)
  ·cases h
 | .st_Vruntime_boundsError, cs, x, h => by
  simp only [mC] at h
  split at h
  ·obtain ⟨x0, h0, h⟩ := Option.bind_eq_some_iff.1 h
   obtain ⟨x1, h1, h⟩ := Option.bind_eq_some_iff.1 h
   obtain ⟨x2, h2, h⟩ := Option.bind_eq_some_iff.1 h
   obtain ⟨x3, h3, h⟩ := Option.bind_eq_some_iff.1 h
   injection h with h
   subst h
   exact .cons (Zn h0) (.cons (Zn h1) (.cons (zaB h2) (.cons (Qt h3) .nil)))
  ·cases h
 | .st_Vseltext_place, cs, x, h => by
  simp only [mC] at h
  split at h
  ·obtain ⟨x0, h0, h⟩ := Option.bind_eq_some_iff.1 h
   obtain ⟨x1, h1, h⟩ := Option.bind_eq_some_iff.1 h
   injection h with h
   subst h
   exact .cons (Zn h0) (.cons (zaB h1) .nil)
  ·cases h
 | .st_Vsheet_found, cs, x, h => by
  simp only [mC] at h
  split at h
  ·obtain ⟨x0, h0, h⟩ := Option.bind_eq_some_iff.1 h
   obtain ⟨x1, h1, h⟩ := Option.bind_eq_some_iff.1 h
   obtain ⟨x2, h2, h⟩ := Option.bind_eq_some_iff.1 h
   injection h with h
   subst h
   exact .cons (Zn h0) (.cons (Zn h1) (.cons (zaB h2) .nil))
  ·cases h
 | .str, cs, x, h => by
  simp only [mC] at h
  split at h
  ·obtain ⟨x0, h0, h⟩ := Option.bind_eq_some_iff.1 h
   injection h with h
   subst h
   exact .cons (zb9 h0) .nil
  ·cases h
 | .other, cs, x, h => by cases h
theorem fe (n : Nat) : ∀ (c : TC) (x : Ct c), fC n c x = (eC n c x).map (pvE I)
 | .bool, x => rfl
 | .int_i64, x => rfl
 | .int_u8, x => rfl
 | .sl_137, x => rfl
 | .sl_140, x => rfl
 | .sl_144, x => rfl
 | .sl_2, x => rfl
 | .sl_29, x => rfl
 | .sl_32, x => rfl
 | .sl_35, x => rfl
 | .sl_5, x => rfl
 | .sl_87, x => rfl
 | .sl_9, x => rfl
 | .sl_97, x => rfl
 | .sl_99, x => rfl
 | .st_VAnb, x => rfl
 | .st_VComplex, (x : zb) => by
  obtain ⟨x_lead, x_parts, x_combs⟩ := x
  show ze _ = _
  simp only [ze, ZI, Zr, ZR]
  rfl
 | .st_VCompound, (x : zA) => by
  obtain ⟨x_tag, x_simples⟩ := x
  show zI _ = _
  simp only [zI, ZI, Zr, ZR]
  rfl
 | .st_VCond, (x : zk) => by
  obtain ⟨x_kind, x_name, x_num, x_decl, x_list⟩ := x
  show zq _ = _
  simp only [zq, zeH]
  rfl
 | .st_VDecl, x => rfl
 | .st_VRule, (x : zu) => by
  obtain ⟨x_kind, x_selectors, x_decls, x_cond, x_names, x_rules⟩ := x
  show zh _ = _
  simp only [zh, zeI]
  rfl
 | .st_VSheet, x => rfl
 | .st_VSimple, (x : zy) => by
  obtain ⟨x_kind, x_name, x_op, x_value, x_fold, x_anb, x_of_, x_list⟩ := x
  show zO _ = _
  simp only [zO, ZI, Zr, ZR]
  rfl
 | .st_VToken, x => rfl
 | .st_VValue, (x : zf) => by
  obtain ⟨x_token, x_list⟩ := x
  show zU _ = _
  simp only [zU, zdF]
  rfl
 | .st_Vnest_found, x => rfl
 | .st_Vref08_base, x => rfl
 | .st_Vref08_place, x => rfl
 | .st_Vruntime_boundsError, x => rfl
 | .st_Vseltext_place, x => rfl
 | .st_Vsheet_found, x => rfl
 | .str, x => rfl
 | .other, x => by
  show List.replicate n (PV.at (Value.slice none 0 0)) = (List.replicate n EV.nil).map (pvE I)
  rw [List.map_replicate]
  rfl
theorem zEJ (n : Nat) (c : TC) (x : Ct c) (h : c ≠ .other → n = size c) : (eC n c x).length = n := by
 cases c
 case other => simp [eC]
 all_goals (rw [h (by simp)]; rfl)
theorem zDW (n : Nat) : ∀ (c : TC) (x : Ct c), (eC n c x).all (zwo (I := I)) = true
 | .bool, x => rfl
 | .int_i64, x => rfl
 | .int_u8, x => rfl
 | .sl_137, x => rfl
 | .sl_140, x => rfl
 | .sl_144, x => rfl
 | .sl_2, x => rfl
 | .sl_29, x => rfl
 | .sl_32, x => rfl
 | .sl_35, x => rfl
 | .sl_5, x => rfl
 | .sl_87, x => rfl
 | .sl_9, x => rfl
 | .sl_97, x => rfl
 | .sl_99, x => rfl
 | .st_VAnb, x => rfl
 | .st_VComplex, x => rfl
 | .st_VCompound, x => rfl
 | .st_VCond, x => rfl
 | .st_VDecl, x => rfl
 | .st_VRule, x => rfl
 | .st_VSheet, x => rfl
 | .st_VSimple, x => rfl
 | .st_VToken, x => rfl
 | .st_VValue, x => rfl
 | .st_Vnest_found, x => rfl
 | .st_Vref08_base, x => rfl
 | .st_Vref08_place, x => rfl
 | .st_Vruntime_boundsError, x => rfl
 | .st_Vseltext_place, x => rfl
 | .st_Vsheet_found, x => rfl
 | .str, x => rfl
 | .other, x => by
  show (List.replicate n EV.nil).all (zwo (I := I)) = true
  rw [List.all_eq_true]
  intro v hv
  rw [(List.mem_replicate.1 hv).2]
  rfl
theorem zE5 : (tab.all fun p => match p.2 with | .int_u8 => (match kdOf Tryz.prog p.1 with | .int .u8 => true | _ => false) | _ => true) = true := by kernel_rfl
theorem zFf (t : Nat) (h : tc t = .int_u8) : kdOf Tryz.prog t = .int .u8 := by
 unfold tc at h
 cases hl : lk tab t with
 | none => rw [hl] at h; cases h
 | some c =>
  rw [hl] at h
  have h : c = .int_u8 := h
  subst h
  have := List.all_eq_true.1 zE5 _ (Zv hl)
  simp only at this
  split at this
  ·assumption
  ·cases this
theorem zDO (n : Nat) : ∀ (c : TC) (p : (List UInt8 → List (Ct c)) × (List (Ct c) → List UInt8)), bC c = some p → (∀ l, (p.1 l).map (fC n c) = l.map fun b => [PV.at (.int .u8 b.toNat)]) ∧ (∀ l, l.map (fC n c) = (p.2 l).map fun b => [PV.at (.int .u8 b.toNat)]) ∧ c = .int_u8 := by
 intro c p h
 cases c
 case int_u8 => cases h; exact ⟨fun l => rfl, fun l => rfl, rfl⟩
 all_goals cases h
theorem zEH (t : Nat) (p : (List UInt8 → List (I.C t)) × (List (I.C t) → List UInt8)) (h : I.byt t = some p) : (∀ l, (p.1 l).map (I.full t) = l.map fun b => [PV.at (.int .u8 b.toNat)]) ∧ (∀ l, l.map (I.full t) = (p.2 l).map fun b => [PV.at (.int .u8 b.toNat)]) ∧ kdOf Tryz.prog t = .int .u8 := by
 obtain ⟨h1, h2, h3⟩ := zDO (Tryz.prog.cellsOf t) (tc t) p h
 exact ⟨h1, h2, zFf t h3⟩
theorem ipOK : IpOK Tryz.prog I where
 len := fun t x => by
  show (fC _ _ x).length = _
  exact (congrArg List.length (fe _ (tc t) x)).trans ((List.length_map ..).trans (zEJ _ (tc t) x (zCa t)))
 exp := fun t x => fe _ _ x
 pur := fun t x v hv => List.all_eq_true.1 (zDW _ _ x) v hv
 made := fun t cs x h => decs (zEi _ _ cs x h)
 byt := zEH
noncomputable def T : TT := [(2, ti Tryz.prog 2), (3, ti Tryz.prog 3), (4, ti Tryz.prog 4), (5, ti Tryz.prog 5), (6, ti Tryz.prog 6), (7, ti Tryz.prog 7), (9, ti Tryz.prog 9), (22, ti Tryz.prog 22), (24, ti Tryz.prog 24), (25, ti Tryz.prog 25), (26, ti Tryz.prog 26), (27, ti Tryz.prog 27), (29, ti Tryz.prog 29), (30, ti Tryz.prog 30), (32, ti Tryz.prog 32), (33, ti Tryz.prog 33), (35, ti Tryz.prog 35), (37, ti Tryz.prog 37), (64, ti Tryz.prog 64), (87, ti Tryz.prog 87), (97, ti Tryz.prog 97), (99, ti Tryz.prog 99), (107, ti Tryz.prog 107), (113, ti Tryz.prog 113), (118, ti Tryz.prog 118), (134, ti Tryz.prog 134), (135, ti Tryz.prog 135), (137, ti Tryz.prog 137), (138, ti Tryz.prog 138), (140, ti Tryz.prog 140), (142, ti Tryz.prog 142), (144, ti Tryz.prog 144), (148, ti Tryz.prog 148), (197, ti Tryz.prog 197), (202, ti Tryz.prog 202), (208, ti Tryz.prog 208)]
def FK : List (Nat × List Kd) := [(97, [.int .u8, .str, .int .i64, .str, .bool]), (142, [.int .i64, .int .i64]), (208, [.int .u8, .str, .int .u8, .str, .bool, .int .i64, .int .i64, .bool])]
theorem tok : TOK Tryz.prog T FK := zE6 (l := [2, 3, 4, 5, 6, 7, 9, 22, 24, 25, 26, 27, 29, 30, 32, 33, 35, 37, 64, 87, 97, 99, 107, 113, 118, 134, 135, 137, 138, 140, 142, 144, 148, 197, 202, 208]) (by
 intro p hp
 simp only [FK, List.mem_cons, List.not_mem_nil, or_false] at hp
 rcases hp with rfl | rfl | rfl <;> kernel_rfl)
theorem mixed : Tryz.prog.follows .mixedOrders = true := by kernel_rfl
noncomputable def body (f : Go.Func) : Code := match f.body with | some c => c | none => .skip
noncomputable def rsl (f : Go.Func) : List ResultVar := f.results.toList
end Go.Lv.VT

namespace Go.Lv.VT
set_option maxRecDepth 100000
open Go.Proofs
def gd : List Nat := [2, 3, 4, 5, 6, 7, 9, 22, 24, 25, 26, 27, 29, 30, 32, 33, 35, 37, 64, 87, 97, 99, 107, 113, 134, 135, 137, 138, 140, 142, 144, 148, 197, 202, 208]
theorem zzE : Tryz.prog.underlying 2 = some (.int .i64) := by kernel_rfl
theorem zxT : Tryz.prog.underlying 3 = some (.int .i64) := by kernel_rfl
theorem zBO : Tryz.prog.underlying 4 = some (.bool) := by kernel_rfl
theorem zzF : Tryz.prog.underlying 5 = some (.int .u8) := by kernel_rfl
theorem zzG : Tryz.prog.underlying 6 = some (.int .u8) := by kernel_rfl
theorem zBP : ∃ fs, Tryz.prog.underlying 7 = some (.struct fs) := ⟨(match Tryz.prog.underlying 7 with | some (.struct fs) => fs | _ => #[]), by kernel_rfl⟩
theorem zFe : zdg Tryz.prog 7 = [(2, 0), (3, 1), (4, 2), (6, 3)] := by kernel_rfl
theorem zBQ : Tryz.prog.underlying 9 = some (.string) := by kernel_rfl
theorem zsI : Tryz.prog.underlying 22 = some (.slice 35) := by kernel_rfl
theorem zwK : ∃ fs, Tryz.prog.underlying 24 = some (.struct fs) := ⟨(match Tryz.prog.underlying 24 with | some (.struct fs) => fs | _ => #[]), by kernel_rfl⟩
theorem zEK : zdg Tryz.prog 24 = [(22, 0)] := by kernel_rfl
theorem zsJ : Tryz.prog.underlying 25 = some (.slice 137) := by kernel_rfl
theorem zsK : Tryz.prog.underlying 26 = some (.slice 29) := by kernel_rfl
theorem zsL : Tryz.prog.underlying 27 = some (.slice 99) := by kernel_rfl
theorem zwL : ∃ fs, Tryz.prog.underlying 29 = some (.struct fs) := ⟨(match Tryz.prog.underlying 29 with | some (.struct fs) => fs | _ => #[]), by kernel_rfl⟩
theorem zEL : zdg Tryz.prog 29 = [(9, 0), (27, 1), (4, 2)] := by kernel_rfl
theorem zsM : Tryz.prog.underlying 30 = some (.slice 32) := by kernel_rfl
theorem zwM : ∃ fs, Tryz.prog.underlying 32 = some (.struct fs) := ⟨(match Tryz.prog.underlying 32 with | some (.struct fs) => fs | _ => #[]), by kernel_rfl⟩
theorem zEM : zdg Tryz.prog 32 = [(5, 0), (9, 1), (2, 2), (29, 3), (30, 6)] := by kernel_rfl
theorem zsN : Tryz.prog.underlying 33 = some (.slice 87) := by kernel_rfl
theorem zwN : ∃ fs, Tryz.prog.underlying 35 = some (.struct fs) := ⟨(match Tryz.prog.underlying 35 with | some (.struct fs) => fs | _ => #[]), by kernel_rfl⟩
theorem zEN : zdg Tryz.prog 35 = [(5, 0), (25, 1), (26, 2), (32, 3), (33, 10), (22, 11)] := by kernel_rfl
theorem zsO : Tryz.prog.underlying 37 = some (.int .i64) := by kernel_rfl
theorem zwO : ∃ fs, Tryz.prog.underlying 64 = some (.struct fs) := ⟨(match Tryz.prog.underlying 64 with | some (.struct fs) => fs | _ => #[]), by kernel_rfl⟩
theorem zEO : zdg Tryz.prog 64 = [(3, 0), (3, 1), (4, 2)] := by kernel_rfl
theorem zsP : Tryz.prog.underlying 87 = some (.slice 9) := by kernel_rfl
theorem zwP : ∃ fs, Tryz.prog.underlying 97 = some (.struct fs) := ⟨(match Tryz.prog.underlying 97 with | some (.struct fs) => fs | _ => #[]), by kernel_rfl⟩
theorem zEP : zdg Tryz.prog 97 = [(5, 0), (9, 1), (2, 2), (9, 3), (4, 4)] := by kernel_rfl
theorem zwQ : ∃ fs, Tryz.prog.underlying 99 = some (.struct fs) := ⟨(match Tryz.prog.underlying 99 with | some (.struct fs) => fs | _ => #[]), by kernel_rfl⟩
theorem zEQ : zdg Tryz.prog 99 = [(97, 0), (27, 5)] := by kernel_rfl
theorem zm3 : Tryz.prog.underlying 107 = some (.slice 97) := by kernel_rfl
theorem zqM : ∃ fs, Tryz.prog.underlying 113 = some (.struct fs) := ⟨(match Tryz.prog.underlying 113 with | some (.struct fs) => fs | _ => #[]), by kernel_rfl⟩
theorem zD2 : zdg Tryz.prog 113 = [(3, 0), (3, 1), (4, 2)] := by kernel_rfl
theorem zm4 : Tryz.prog.underlying 134 = some (.slice 140) := by kernel_rfl
theorem zm5 : Tryz.prog.underlying 135 = some (.slice 5) := by kernel_rfl
theorem zqN : ∃ fs, Tryz.prog.underlying 137 = some (.struct fs) := ⟨(match Tryz.prog.underlying 137 with | some (.struct fs) => fs | _ => #[]), by kernel_rfl⟩
theorem zD3 : zdg Tryz.prog 137 = [(5, 0), (134, 1), (135, 2)] := by kernel_rfl
theorem zm6 : Tryz.prog.underlying 138 = some (.slice 144) := by kernel_rfl
theorem zqO : ∃ fs, Tryz.prog.underlying 140 = some (.struct fs) := ⟨(match Tryz.prog.underlying 140 with | some (.struct fs) => fs | _ => #[]), by kernel_rfl⟩
theorem zD4 : zdg Tryz.prog 140 = [(9, 0), (138, 1)] := by kernel_rfl
theorem zqP : ∃ fs, Tryz.prog.underlying 142 = some (.struct fs) := ⟨(match Tryz.prog.underlying 142 with | some (.struct fs) => fs | _ => #[]), by kernel_rfl⟩
theorem zD5 : zdg Tryz.prog 142 = [(2, 0), (2, 1)] := by kernel_rfl
theorem zqQ : ∃ fs, Tryz.prog.underlying 144 = some (.struct fs) := ⟨(match Tryz.prog.underlying 144 with | some (.struct fs) => fs | _ => #[]), by kernel_rfl⟩
theorem zD6 : zdg Tryz.prog 144 = [(5, 0), (9, 1), (5, 2), (9, 3), (4, 4), (142, 5), (4, 7), (25, 8)] := by kernel_rfl
theorem zqR : ∃ fs, Tryz.prog.underlying 148 = some (.struct fs) := ⟨(match Tryz.prog.underlying 148 with | some (.struct fs) => fs | _ => #[]), by kernel_rfl⟩
theorem zD7 : zdg Tryz.prog 148 = [(3, 0), (4, 1)] := by kernel_rfl
theorem zqS : ∃ fs, Tryz.prog.underlying 197 = some (.struct fs) := ⟨(match Tryz.prog.underlying 197 with | some (.struct fs) => fs | _ => #[]), by kernel_rfl⟩
theorem zD8 : zdg Tryz.prog 197 = [(3, 0), (4, 1)] := by kernel_rfl
theorem zm7 : Tryz.prog.underlying 202 = some (.slice 2) := by kernel_rfl
theorem zqT : ∃ fs, Tryz.prog.underlying 208 = some (.struct fs) := ⟨(match Tryz.prog.underlying 208 with | some (.struct fs) => fs | _ => #[]), by kernel_rfl⟩
theorem zD9 : zdg Tryz.prog 208 = [(5, 0), (9, 1), (5, 2), (9, 3), (4, 4), (142, 5), (4, 7)] := by kernel_rfl
theorem ipRd : IpRd Tryz.prog I (fun t => t ∈ gd) where
 int := fun t k hg hu n h1 h2 => by
  simp only [gd, List.mem_cons, List.not_mem_nil, or_false] at hg
  rcases hg with rfl | rfl | rfl | rfl | rfl | rfl | rfl | rfl | rfl | rfl | rfl | rfl | rfl | rfl | rfl | rfl | rfl | rfl | rfl | rfl | rfl | rfl | rfl | rfl | rfl | rfl | rfl | rfl | rfl | rfl | rfl | rfl | rfl | rfl | rfl
  ·rw [zzE] at hu; cases hu; exact ⟨(n : Int), rfl⟩
  ·rw [zxT] at hu; cases hu; exact ⟨(n : Int), rfl⟩
  ·rw [zBO] at hu; cases hu
  ·rw [zzF] at hu; cases hu; exact ⟨UInt8.ofNat n.toNat, zDB h1 h2⟩
  ·rw [zzG] at hu; cases hu; exact ⟨UInt8.ofNat n.toNat, zDB h1 h2⟩
  ·obtain ⟨fs, e⟩ := zBP; rw [e] at hu; cases hu
  ·rw [zBQ] at hu; cases hu
  ·rw [zsI] at hu; cases hu
  ·obtain ⟨fs, e⟩ := zwK; rw [e] at hu; cases hu
  ·rw [zsJ] at hu; cases hu
  ·rw [zsK] at hu; cases hu
  ·rw [zsL] at hu; cases hu
  ·obtain ⟨fs, e⟩ := zwL; rw [e] at hu; cases hu
  ·rw [zsM] at hu; cases hu
  ·obtain ⟨fs, e⟩ := zwM; rw [e] at hu; cases hu
  ·rw [zsN] at hu; cases hu
  ·obtain ⟨fs, e⟩ := zwN; rw [e] at hu; cases hu
  ·rw [zsO] at hu; cases hu; exact ⟨(n : Int), rfl⟩
  ·obtain ⟨fs, e⟩ := zwO; rw [e] at hu; cases hu
  ·rw [zsP] at hu; cases hu
  ·obtain ⟨fs, e⟩ := zwP; rw [e] at hu; cases hu
  ·obtain ⟨fs, e⟩ := zwQ; rw [e] at hu; cases hu
  ·rw [zm3] at hu; cases hu
  ·obtain ⟨fs, e⟩ := zqM; rw [e] at hu; cases hu
  ·rw [zm4] at hu; cases hu
  ·rw [zm5] at hu; cases hu
  ·obtain ⟨fs, e⟩ := zqN; rw [e] at hu; cases hu
  ·rw [zm6] at hu; cases hu
  ·obtain ⟨fs, e⟩ := zqO; rw [e] at hu; cases hu
  ·obtain ⟨fs, e⟩ := zqP; rw [e] at hu; cases hu
  ·obtain ⟨fs, e⟩ := zqQ; rw [e] at hu; cases hu
  ·obtain ⟨fs, e⟩ := zqR; rw [e] at hu; cases hu
  ·obtain ⟨fs, e⟩ := zqS; rw [e] at hu; cases hu
  ·rw [zm7] at hu; cases hu
  ·obtain ⟨fs, e⟩ := zqT; rw [e] at hu; cases hu
 bool := fun t hg hu b => by
  simp only [gd, List.mem_cons, List.not_mem_nil, or_false] at hg
  rcases hg with rfl | rfl | rfl | rfl | rfl | rfl | rfl | rfl | rfl | rfl | rfl | rfl | rfl | rfl | rfl | rfl | rfl | rfl | rfl | rfl | rfl | rfl | rfl | rfl | rfl | rfl | rfl | rfl | rfl | rfl | rfl | rfl | rfl | rfl | rfl
  ·rw [zzE] at hu; cases hu
  ·rw [zxT] at hu; cases hu
  ·exact ⟨(b : Bool), rfl⟩
  ·rw [zzF] at hu; cases hu
  ·rw [zzG] at hu; cases hu
  ·obtain ⟨fs, e⟩ := zBP; rw [e] at hu; cases hu
  ·rw [zBQ] at hu; cases hu
  ·rw [zsI] at hu; cases hu
  ·obtain ⟨fs, e⟩ := zwK; rw [e] at hu; cases hu
  ·rw [zsJ] at hu; cases hu
  ·rw [zsK] at hu; cases hu
  ·rw [zsL] at hu; cases hu
  ·obtain ⟨fs, e⟩ := zwL; rw [e] at hu; cases hu
  ·rw [zsM] at hu; cases hu
  ·obtain ⟨fs, e⟩ := zwM; rw [e] at hu; cases hu
  ·rw [zsN] at hu; cases hu
  ·obtain ⟨fs, e⟩ := zwN; rw [e] at hu; cases hu
  ·rw [zsO] at hu; cases hu
  ·obtain ⟨fs, e⟩ := zwO; rw [e] at hu; cases hu
  ·rw [zsP] at hu; cases hu
  ·obtain ⟨fs, e⟩ := zwP; rw [e] at hu; cases hu
  ·obtain ⟨fs, e⟩ := zwQ; rw [e] at hu; cases hu
  ·rw [zm3] at hu; cases hu
  ·obtain ⟨fs, e⟩ := zqM; rw [e] at hu; cases hu
  ·rw [zm4] at hu; cases hu
  ·rw [zm5] at hu; cases hu
  ·obtain ⟨fs, e⟩ := zqN; rw [e] at hu; cases hu
  ·rw [zm6] at hu; cases hu
  ·obtain ⟨fs, e⟩ := zqO; rw [e] at hu; cases hu
  ·obtain ⟨fs, e⟩ := zqP; rw [e] at hu; cases hu
  ·obtain ⟨fs, e⟩ := zqQ; rw [e] at hu; cases hu
  ·obtain ⟨fs, e⟩ := zqR; rw [e] at hu; cases hu
  ·obtain ⟨fs, e⟩ := zqS; rw [e] at hu; cases hu
  ·rw [zm7] at hu; cases hu
  ·obtain ⟨fs, e⟩ := zqT; rw [e] at hu; cases hu
 str := fun t hg hu l => by
  simp only [gd, List.mem_cons, List.not_mem_nil, or_false] at hg
  rcases hg with rfl | rfl | rfl | rfl | rfl | rfl | rfl | rfl | rfl | rfl | rfl | rfl | rfl | rfl | rfl | rfl | rfl | rfl | rfl | rfl | rfl | rfl | rfl | rfl | rfl | rfl | rfl | rfl | rfl | rfl | rfl | rfl | rfl | rfl | rfl
  ·rw [zzE] at hu; cases hu
  ·rw [zxT] at hu; cases hu
  ·rw [zBO] at hu; cases hu
  ·rw [zzF] at hu; cases hu
  ·rw [zzG] at hu; cases hu
  ·obtain ⟨fs, e⟩ := zBP; rw [e] at hu; cases hu
  ·exact ⟨(l : Str), rfl⟩
  ·rw [zsI] at hu; cases hu
  ·obtain ⟨fs, e⟩ := zwK; rw [e] at hu; cases hu
  ·rw [zsJ] at hu; cases hu
  ·rw [zsK] at hu; cases hu
  ·rw [zsL] at hu; cases hu
  ·obtain ⟨fs, e⟩ := zwL; rw [e] at hu; cases hu
  ·rw [zsM] at hu; cases hu
  ·obtain ⟨fs, e⟩ := zwM; rw [e] at hu; cases hu
  ·rw [zsN] at hu; cases hu
  ·obtain ⟨fs, e⟩ := zwN; rw [e] at hu; cases hu
  ·rw [zsO] at hu; cases hu
  ·obtain ⟨fs, e⟩ := zwO; rw [e] at hu; cases hu
  ·rw [zsP] at hu; cases hu
  ·obtain ⟨fs, e⟩ := zwP; rw [e] at hu; cases hu
  ·obtain ⟨fs, e⟩ := zwQ; rw [e] at hu; cases hu
  ·rw [zm3] at hu; cases hu
  ·obtain ⟨fs, e⟩ := zqM; rw [e] at hu; cases hu
  ·rw [zm4] at hu; cases hu
  ·rw [zm5] at hu; cases hu
  ·obtain ⟨fs, e⟩ := zqN; rw [e] at hu; cases hu
  ·rw [zm6] at hu; cases hu
  ·obtain ⟨fs, e⟩ := zqO; rw [e] at hu; cases hu
  ·obtain ⟨fs, e⟩ := zqP; rw [e] at hu; cases hu
  ·obtain ⟨fs, e⟩ := zqQ; rw [e] at hu; cases hu
  ·obtain ⟨fs, e⟩ := zqR; rw [e] at hu; cases hu
  ·obtain ⟨fs, e⟩ := zqS; rw [e] at hu; cases hu
  ·rw [zm7] at hu; cases hu
  ·obtain ⟨fs, e⟩ := zqT; rw [e] at hu; cases hu
 sl := fun t e hg hu => by
  simp only [gd, List.mem_cons, List.not_mem_nil, or_false] at hg
  rcases hg with rfl | rfl | rfl | rfl | rfl | rfl | rfl | rfl | rfl | rfl | rfl | rfl | rfl | rfl | rfl | rfl | rfl | rfl | rfl | rfl | rfl | rfl | rfl | rfl | rfl | rfl | rfl | rfl | rfl | rfl | rfl | rfl | rfl | rfl | rfl
  ·rw [zzE] at hu; cases hu
  ·rw [zxT] at hu; cases hu
  ·rw [zBO] at hu; cases hu
  ·rw [zzF] at hu; cases hu
  ·rw [zzG] at hu; cases hu
  ·obtain ⟨fs, e⟩ := zBP; rw [e] at hu; cases hu
  ·rw [zBQ] at hu; cases hu
  ·rw [zsI] at hu; cases hu; exact ⟨by simp [gd], Nat.lt_of_lt_of_eq (by decide : 0 < 12) (by kernel_rfl : 12 = Tryz.prog.cellsOf 35), fun l => ⟨(l : List zu), rfl⟩⟩
  ·obtain ⟨fs, e⟩ := zwK; rw [e] at hu; cases hu
  ·rw [zsJ] at hu; cases hu; exact ⟨by simp [gd], Nat.lt_of_lt_of_eq (by decide : 0 < 3) (by kernel_rfl : 3 = Tryz.prog.cellsOf 137), fun l => ⟨(l : List zb), rfl⟩⟩
  ·rw [zsK] at hu; cases hu; exact ⟨by simp [gd], Nat.lt_of_lt_of_eq (by decide : 0 < 3) (by kernel_rfl : 3 = Tryz.prog.cellsOf 29), fun l => ⟨(l : List Zh), rfl⟩⟩
  ·rw [zsL] at hu; cases hu; exact ⟨by simp [gd], Nat.lt_of_lt_of_eq (by decide : 0 < 6) (by kernel_rfl : 6 = Tryz.prog.cellsOf 99), fun l => ⟨(l : List zf), rfl⟩⟩
  ·obtain ⟨fs, e⟩ := zwL; rw [e] at hu; cases hu
  ·rw [zsM] at hu; cases hu; exact ⟨by simp [gd], Nat.lt_of_lt_of_eq (by decide : 0 < 7) (by kernel_rfl : 7 = Tryz.prog.cellsOf 32), fun l => ⟨(l : List zk), rfl⟩⟩
  ·obtain ⟨fs, e⟩ := zwM; rw [e] at hu; cases hu
  ·rw [zsN] at hu; cases hu; exact ⟨by simp [gd], Nat.lt_of_lt_of_eq (by decide : 0 < 1) (by kernel_rfl : 1 = Tryz.prog.cellsOf 87), fun l => ⟨(l : List (List Str)), rfl⟩⟩
  ·obtain ⟨fs, e⟩ := zwN; rw [e] at hu; cases hu
  ·rw [zsO] at hu; cases hu
  ·obtain ⟨fs, e⟩ := zwO; rw [e] at hu; cases hu
  ·rw [zsP] at hu; cases hu; exact ⟨by simp [gd], Nat.lt_of_lt_of_eq (by decide : 0 < 1) (by kernel_rfl : 1 = Tryz.prog.cellsOf 9), fun l => ⟨(l : List Str), rfl⟩⟩
  ·obtain ⟨fs, e⟩ := zwP; rw [e] at hu; cases hu
  ·obtain ⟨fs, e⟩ := zwQ; rw [e] at hu; cases hu
  ·rw [zm3] at hu; cases hu; exact ⟨by simp [gd], Nat.lt_of_lt_of_eq (by decide : 0 < 5) (by kernel_rfl : 5 = Tryz.prog.cellsOf 97), fun l => ⟨(l : List zm), rfl⟩⟩
  ·obtain ⟨fs, e⟩ := zqM; rw [e] at hu; cases hu
  ·rw [zm4] at hu; cases hu; exact ⟨by simp [gd], Nat.lt_of_lt_of_eq (by decide : 0 < 2) (by kernel_rfl : 2 = Tryz.prog.cellsOf 140), fun l => ⟨(l : List zA), rfl⟩⟩
  ·rw [zm5] at hu; cases hu; exact ⟨by simp [gd], Nat.lt_of_lt_of_eq (by decide : 0 < 1) (by kernel_rfl : 1 = Tryz.prog.cellsOf 5), fun l => ⟨(l : List UInt8), rfl⟩⟩
  ·obtain ⟨fs, e⟩ := zqN; rw [e] at hu; cases hu
  ·rw [zm6] at hu; cases hu; exact ⟨by simp [gd], Nat.lt_of_lt_of_eq (by decide : 0 < 9) (by kernel_rfl : 9 = Tryz.prog.cellsOf 144), fun l => ⟨(l : List zy), rfl⟩⟩
  ·obtain ⟨fs, e⟩ := zqO; rw [e] at hu; cases hu
  ·obtain ⟨fs, e⟩ := zqP; rw [e] at hu; cases hu
  ·obtain ⟨fs, e⟩ := zqQ; rw [e] at hu; cases hu
  ·obtain ⟨fs, e⟩ := zqR; rw [e] at hu; cases hu
  ·obtain ⟨fs, e⟩ := zqS; rw [e] at hu; cases hu
  ·rw [zm7] at hu; cases hu; exact ⟨by simp [gd], Nat.lt_of_lt_of_eq (by decide : 0 < 1) (by kernel_rfl : 1 = Tryz.prog.cellsOf 2), fun l => ⟨(l : List Int), rfl⟩⟩
  ·obtain ⟨fs, e⟩ := zqT; rw [e] at hu; cases hu
 st := fun t fs hg hu => by
  simp only [gd, List.mem_cons, List.not_mem_nil, or_false] at hg
  rcases hg with rfl | rfl | rfl | rfl | rfl | rfl | rfl | rfl | rfl | rfl | rfl | rfl | rfl | rfl | rfl | rfl | rfl | rfl | rfl | rfl | rfl | rfl | rfl | rfl | rfl | rfl | rfl | rfl | rfl | rfl | rfl | rfl | rfl | rfl | rfl
  ·rw [zzE] at hu; cases hu
  ·rw [zxT] at hu; cases hu
  ·rw [zBO] at hu; cases hu
  ·rw [zzF] at hu; cases hu
  ·rw [zzG] at hu; cases hu
  ·refine zjy hu zFe (by simp [gd]) (by kernel_rfl) (by kernel_rfl) (fun pvs h0 => ?_)
   obtain ⟨_, pvs, rfl, ⟨y0, rfl⟩, h1⟩ := zG h0
   obtain ⟨_, pvs, rfl, ⟨y1, rfl⟩, h2⟩ := zG h1
   obtain ⟨_, pvs, rfl, ⟨y2, rfl⟩, h3⟩ := zG h2
   obtain ⟨_, pvs, rfl, ⟨y3, rfl⟩, h4⟩ := zG h3
   rw [QU h4]
   exact ⟨(⟨y0, y1, y2, ((UInt8.toNat y3 : Nat) : Int)⟩ : Zu), rfl⟩
  ·rw [zBQ] at hu; cases hu
  ·rw [zsI] at hu; cases hu
  ·refine zjy hu zEK (by simp [gd]) (by kernel_rfl) (by kernel_rfl) (fun pvs h0 => ?_)
   obtain ⟨_, pvs, rfl, ⟨y0, rfl⟩, h1⟩ := zG h0
   rw [QU h1]
   exact ⟨(⟨y0⟩ : Zo), rfl⟩
  ·rw [zsJ] at hu; cases hu
  ·rw [zsK] at hu; cases hu
  ·rw [zsL] at hu; cases hu
  ·refine zjy hu zEL (by simp [gd]) (by kernel_rfl) (by kernel_rfl) (fun pvs h0 => ?_)
   obtain ⟨_, pvs, rfl, ⟨y0, rfl⟩, h1⟩ := zG h0
   obtain ⟨_, pvs, rfl, ⟨y1, rfl⟩, h2⟩ := zG h1
   obtain ⟨_, pvs, rfl, ⟨y2, rfl⟩, h3⟩ := zG h2
   rw [QU h3]
   exact ⟨(⟨y0, y1, y2⟩ : Zh), rfl⟩
  ·rw [zsM] at hu; cases hu
  ·refine zjy hu zEM (by simp [gd]) (by kernel_rfl) (by kernel_rfl) (fun pvs h0 => ?_)
   obtain ⟨_, pvs, rfl, ⟨y0, rfl⟩, h1⟩ := zG h0
   obtain ⟨_, pvs, rfl, ⟨y1, rfl⟩, h2⟩ := zG h1
   obtain ⟨_, pvs, rfl, ⟨y2, rfl⟩, h3⟩ := zG h2
   obtain ⟨_, pvs, rfl, ⟨y3, rfl⟩, h4⟩ := zG h3
   obtain ⟨_, pvs, rfl, ⟨y4, rfl⟩, h5⟩ := zG h4
   rw [QU h5]
   exact ⟨(⟨((UInt8.toNat y0 : Nat) : Int), y1, y2, y3, y4⟩ : zk), (znt ((UInt8.toNat y0 : Nat) : Int) y1 y2 y3 y4).trans rfl⟩
  ·rw [zsN] at hu; cases hu
  ·refine zjy hu zEN (by simp [gd]) (by kernel_rfl) (by kernel_rfl) (fun pvs h0 => ?_)
   obtain ⟨_, pvs, rfl, ⟨y0, rfl⟩, h1⟩ := zG h0
   obtain ⟨_, pvs, rfl, ⟨y1, rfl⟩, h2⟩ := zG h1
   obtain ⟨_, pvs, rfl, ⟨y2, rfl⟩, h3⟩ := zG h2
   obtain ⟨_, pvs, rfl, ⟨y3, rfl⟩, h4⟩ := zG h3
   obtain ⟨_, pvs, rfl, ⟨y4, rfl⟩, h5⟩ := zG h4
   obtain ⟨_, pvs, rfl, ⟨y5, rfl⟩, h6⟩ := zG h5
   rw [QU h6]
   exact ⟨(⟨((UInt8.toNat y0 : Nat) : Int), y1, y2, y3, y4, y5⟩ : zu), (znu ((UInt8.toNat y0 : Nat) : Int) y1 y2 y3 y4 y5).trans (by
    show [.at (.int .u8 ((UInt8.toNat y0 : Nat) : Int))] ++ ([.sl (y1.map ze)] ++ ([.sl (y2.map Zc)] ++ ([.at (.int .u8 y3.kind), .str y3.name, .at (.int .i64 y3.num), .str y3.decl.name, .sl (y3.decl.value.map zU), .at (.bool y3.decl.important), .sl (y3.list.map zq)] ++ ([.sl (y4.map (fun y => [.sl (y.map (fun y => [.str y]))]))] ++ ([.sl (y5.map zh)] ++ ([] : List PV)))))) = _
    rw [← zlf y3]
    rfl)⟩
  ·rw [zsO] at hu; cases hu
  ·refine zjy hu zEO (by simp [gd]) (by kernel_rfl) (by kernel_rfl) (fun pvs h0 => ?_)
   obtain ⟨_, pvs, rfl, ⟨y0, rfl⟩, h1⟩ := zG h0
   obtain ⟨_, pvs, rfl, ⟨y1, rfl⟩, h2⟩ := zG h1
   obtain ⟨_, pvs, rfl, ⟨y2, rfl⟩, h3⟩ := zG h2
   rw [QU h3]
   exact ⟨(⟨y0, y1, y2⟩ : zo), rfl⟩
  ·rw [zsP] at hu; cases hu
  ·refine zjy hu zEP (by simp [gd]) (by kernel_rfl) (by kernel_rfl) (fun pvs h0 => ?_)
   obtain ⟨_, pvs, rfl, ⟨y0, rfl⟩, h1⟩ := zG h0
   obtain ⟨_, pvs, rfl, ⟨y1, rfl⟩, h2⟩ := zG h1
   obtain ⟨_, pvs, rfl, ⟨y2, rfl⟩, h3⟩ := zG h2
   obtain ⟨_, pvs, rfl, ⟨y3, rfl⟩, h4⟩ := zG h3
   obtain ⟨_, pvs, rfl, ⟨y4, rfl⟩, h5⟩ := zG h4
   rw [QU h5]
   exact ⟨(⟨((UInt8.toNat y0 : Nat) : Int), y1, y2, y3, y4⟩ : zm), rfl⟩
  ·refine zjy hu zEQ (by simp [gd]) (by kernel_rfl) (by kernel_rfl) (fun pvs h0 => ?_)
   obtain ⟨_, pvs, rfl, ⟨y0, rfl⟩, h1⟩ := zG h0
   obtain ⟨_, pvs, rfl, ⟨y1, rfl⟩, h2⟩ := zG h1
   rw [QU h2]
   exact ⟨(⟨y0, y1⟩ : zf), (zlg y0 y1).trans rfl⟩
  ·rw [zm3] at hu; cases hu
  ·refine zjy hu zD2 (by simp [gd]) (by kernel_rfl) (by kernel_rfl) (fun pvs h0 => ?_)
   obtain ⟨_, pvs, rfl, ⟨y0, rfl⟩, h1⟩ := zG h0
   obtain ⟨_, pvs, rfl, ⟨y1, rfl⟩, h2⟩ := zG h1
   obtain ⟨_, pvs, rfl, ⟨y2, rfl⟩, h3⟩ := zG h2
   rw [QU h3]
   exact ⟨(⟨y0, y1, y2⟩ : zS), rfl⟩
  ·rw [zm4] at hu; cases hu
  ·rw [zm5] at hu; cases hu
  ·refine zjy hu zD3 (by simp [gd]) (by kernel_rfl) (by kernel_rfl) (fun pvs h0 => ?_)
   obtain ⟨_, pvs, rfl, ⟨y0, rfl⟩, h1⟩ := zG h0
   obtain ⟨_, pvs, rfl, ⟨y1, rfl⟩, h2⟩ := zG h1
   obtain ⟨_, pvs, rfl, ⟨y2, rfl⟩, h3⟩ := zG h2
   rw [QU h3]
   exact ⟨(⟨((UInt8.toNat y0 : Nat) : Int), y1, y2⟩ : zb), (ziv ((UInt8.toNat y0 : Nat) : Int) y1 y2).trans rfl⟩
  ·rw [zm6] at hu; cases hu
  ·refine zjy hu zD4 (by simp [gd]) (by kernel_rfl) (by kernel_rfl) (fun pvs h0 => ?_)
   obtain ⟨_, pvs, rfl, ⟨y0, rfl⟩, h1⟩ := zG h0
   obtain ⟨_, pvs, rfl, ⟨y1, rfl⟩, h2⟩ := zG h1
   rw [QU h2]
   exact ⟨(⟨y0, y1⟩ : zA), (zhW y0 y1).trans rfl⟩
  ·refine zjy hu zD5 (by simp [gd]) (by kernel_rfl) (by kernel_rfl) (fun pvs h0 => ?_)
   obtain ⟨_, pvs, rfl, ⟨y0, rfl⟩, h1⟩ := zG h0
   obtain ⟨_, pvs, rfl, ⟨y1, rfl⟩, h2⟩ := zG h1
   rw [QU h2]
   exact ⟨(⟨y0, y1⟩ : VAnb), rfl⟩
  ·refine zjy hu zD6 (by simp [gd]) (by kernel_rfl) (by kernel_rfl) (fun pvs h0 => ?_)
   obtain ⟨_, pvs, rfl, ⟨y0, rfl⟩, h1⟩ := zG h0
   obtain ⟨_, pvs, rfl, ⟨y1, rfl⟩, h2⟩ := zG h1
   obtain ⟨_, pvs, rfl, ⟨y2, rfl⟩, h3⟩ := zG h2
   obtain ⟨_, pvs, rfl, ⟨y3, rfl⟩, h4⟩ := zG h3
   obtain ⟨_, pvs, rfl, ⟨y4, rfl⟩, h5⟩ := zG h4
   obtain ⟨_, pvs, rfl, ⟨y5, rfl⟩, h6⟩ := zG h5
   obtain ⟨_, pvs, rfl, ⟨y6, rfl⟩, h7⟩ := zG h6
   obtain ⟨_, pvs, rfl, ⟨y7, rfl⟩, h8⟩ := zG h7
   rw [QU h8]
   exact ⟨(⟨((UInt8.toNat y0 : Nat) : Int), y1, ((UInt8.toNat y2 : Nat) : Int), y3, y4, y5, y6, y7⟩ : zy), (zjT ((UInt8.toNat y0 : Nat) : Int) y1 ((UInt8.toNat y2 : Nat) : Int) y3 y4 y5 y6 y7).trans rfl⟩
  ·refine zjy hu zD7 (by simp [gd]) (by kernel_rfl) (by kernel_rfl) (fun pvs h0 => ?_)
   obtain ⟨_, pvs, rfl, ⟨y0, rfl⟩, h1⟩ := zG h0
   obtain ⟨_, pvs, rfl, ⟨y1, rfl⟩, h2⟩ := zG h1
   rw [QU h2]
   exact ⟨(⟨y0, y1⟩ : zn), rfl⟩
  ·refine zjy hu zD8 (by simp [gd]) (by kernel_rfl) (by kernel_rfl) (fun pvs h0 => ?_)
   obtain ⟨_, pvs, rfl, ⟨y0, rfl⟩, h1⟩ := zG h0
   obtain ⟨_, pvs, rfl, ⟨y1, rfl⟩, h2⟩ := zG h1
   rw [QU h2]
   exact ⟨(⟨y0, y1⟩ : zK), rfl⟩
  ·rw [zm7] at hu; cases hu
  ·refine zjy hu zD9 (by simp [gd]) (by kernel_rfl) (by kernel_rfl) (fun pvs h0 => ?_)
   obtain ⟨_, pvs, rfl, ⟨y0, rfl⟩, h1⟩ := zG h0
   obtain ⟨_, pvs, rfl, ⟨y1, rfl⟩, h2⟩ := zG h1
   obtain ⟨_, pvs, rfl, ⟨y2, rfl⟩, h3⟩ := zG h2
   obtain ⟨_, pvs, rfl, ⟨y3, rfl⟩, h4⟩ := zG h3
   obtain ⟨_, pvs, rfl, ⟨y4, rfl⟩, h5⟩ := zG h4
   obtain ⟨_, pvs, rfl, ⟨y5, rfl⟩, h6⟩ := zG h5
   obtain ⟨_, pvs, rfl, ⟨y6, rfl⟩, h7⟩ := zG h6
   rw [QU h7]
   exact ⟨(⟨((UInt8.toNat y0 : Nat) : Int), y1, ((UInt8.toNat y2 : Nat) : Int), y3, y4, y5, y6⟩ : Qi), rfl⟩
 only := fun t u hg hu => by
  simp only [gd, List.mem_cons, List.not_mem_nil, or_false] at hg
  rcases hg with rfl | rfl | rfl | rfl | rfl | rfl | rfl | rfl | rfl | rfl | rfl | rfl | rfl | rfl | rfl | rfl | rfl | rfl | rfl | rfl | rfl | rfl | rfl | rfl | rfl | rfl | rfl | rfl | rfl | rfl | rfl | rfl | rfl | rfl | rfl
  ·rw [zzE] at hu; cases hu; exact .inl ⟨_, rfl⟩
  ·rw [zxT] at hu; cases hu; exact .inl ⟨_, rfl⟩
  ·rw [zBO] at hu; cases hu; exact .inr (.inl rfl)
  ·rw [zzF] at hu; cases hu; exact .inl ⟨_, rfl⟩
  ·rw [zzG] at hu; cases hu; exact .inl ⟨_, rfl⟩
  ·obtain ⟨fs, e⟩ := zBP; rw [e] at hu; cases hu; exact .inr (.inr (.inr (.inr ⟨_, rfl⟩)))
  ·rw [zBQ] at hu; cases hu; exact .inr (.inr (.inl rfl))
  ·rw [zsI] at hu; cases hu; exact .inr (.inr (.inr (.inl ⟨_, rfl⟩)))
  ·obtain ⟨fs, e⟩ := zwK; rw [e] at hu; cases hu; exact .inr (.inr (.inr (.inr ⟨_, rfl⟩)))
  ·rw [zsJ] at hu; cases hu; exact .inr (.inr (.inr (.inl ⟨_, rfl⟩)))
  ·rw [zsK] at hu; cases hu; exact .inr (.inr (.inr (.inl ⟨_, rfl⟩)))
  ·rw [zsL] at hu; cases hu; exact .inr (.inr (.inr (.inl ⟨_, rfl⟩)))
  ·obtain ⟨fs, e⟩ := zwL; rw [e] at hu; cases hu; exact .inr (.inr (.inr (.inr ⟨_, rfl⟩)))
  ·rw [zsM] at hu; cases hu; exact .inr (.inr (.inr (.inl ⟨_, rfl⟩)))
  ·obtain ⟨fs, e⟩ := zwM; rw [e] at hu; cases hu; exact .inr (.inr (.inr (.inr ⟨_, rfl⟩)))
  ·rw [zsN] at hu; cases hu; exact .inr (.inr (.inr (.inl ⟨_, rfl⟩)))
  ·obtain ⟨fs, e⟩ := zwN; rw [e] at hu; cases hu; exact .inr (.inr (.inr (.inr ⟨_, rfl⟩)))
  ·rw [zsO] at hu; cases hu; exact .inl ⟨_, rfl⟩
  ·obtain ⟨fs, e⟩ := zwO; rw [e] at hu; cases hu; exact .inr (.inr (.inr (.inr ⟨_, rfl⟩)))
  ·rw [zsP] at hu; cases hu; exact .inr (.inr (.inr (.inl ⟨_, rfl⟩)))
  ·obtain ⟨fs, e⟩ := zwP; rw [e] at hu; cases hu; exact .inr (.inr (.inr (.inr ⟨_, rfl⟩)))
  ·obtain ⟨fs, e⟩ := zwQ; rw [e] at hu; cases hu; exact .inr (.inr (.inr (.inr ⟨_, rfl⟩)))
  ·rw [zm3] at hu; cases hu; exact .inr (.inr (.inr (.inl ⟨_, rfl⟩)))
  ·obtain ⟨fs, e⟩ := zqM; rw [e] at hu; cases hu; exact .inr (.inr (.inr (.inr ⟨_, rfl⟩)))
  ·rw [zm4] at hu; cases hu; exact .inr (.inr (.inr (.inl ⟨_, rfl⟩)))
  ·rw [zm5] at hu; cases hu; exact .inr (.inr (.inr (.inl ⟨_, rfl⟩)))
  ·obtain ⟨fs, e⟩ := zqN; rw [e] at hu; cases hu; exact .inr (.inr (.inr (.inr ⟨_, rfl⟩)))
  ·rw [zm6] at hu; cases hu; exact .inr (.inr (.inr (.inl ⟨_, rfl⟩)))
  ·obtain ⟨fs, e⟩ := zqO; rw [e] at hu; cases hu; exact .inr (.inr (.inr (.inr ⟨_, rfl⟩)))
  ·obtain ⟨fs, e⟩ := zqP; rw [e] at hu; cases hu; exact .inr (.inr (.inr (.inr ⟨_, rfl⟩)))
  ·obtain ⟨fs, e⟩ := zqQ; rw [e] at hu; cases hu; exact .inr (.inr (.inr (.inr ⟨_, rfl⟩)))
  ·obtain ⟨fs, e⟩ := zqR; rw [e] at hu; cases hu; exact .inr (.inr (.inr (.inr ⟨_, rfl⟩)))
  ·obtain ⟨fs, e⟩ := zqS; rw [e] at hu; cases hu; exact .inr (.inr (.inr (.inr ⟨_, rfl⟩)))
  ·rw [zm7] at hu; cases hu; exact .inr (.inr (.inr (.inl ⟨_, rfl⟩)))
  ·obtain ⟨fs, e⟩ := zqT; rw [e] at hu; cases hu; exact .inr (.inr (.inr (.inr ⟨_, rfl⟩)))
end Go.Lv.VT
