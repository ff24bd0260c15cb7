/- What stands for the values of types. -/
import Derived.Test.YtnfhfeipljhciaaGreatProg
import Derived.Test.YtnfhfeipljhciaaGreatLf
import Derived.Test.YtnfhfeipljhciaaGreatTy
import Derived.KernelRfl
namespace Go.Lv.VT
set_option maxRecDepth 100000
open Go.Proofs
inductive TC where
  | bool | int_i64 | int_u8 | sl_2 | sl_27 | sl_32 | sl_5 | sl_9 | sl_97 | sl_99 | st_VCond | st_VDecl | st_VToken | st_VValue | st_Vcond_reader | st_Vnest_found | str | other
def Ct : TC → Type
  | .bool => Bool | .int_i64 => Int | .int_u8 => UInt8 | .sl_2 => List Int | .sl_27 => List (List VValue) | .sl_32 => List VCond | .sl_5 => List UInt8 | .sl_9 => List Str | .sl_97 => List VToken | .sl_99 => List VValue | .st_VCond => VCond | .st_VDecl => VDecl | .st_VToken => VToken | .st_VValue => VValue | .st_Vcond_reader => Vcond_reader | .st_Vnest_found => Vnest_found | .str => Str | .other => Unit
def tab : List (Nat × TC) := [(2, .int_i64), (3, .int_i64), (4, .bool), (5, .int_u8), (9, .str), (27, .sl_99), (29, .st_VDecl), (30, .sl_32), (32, .st_VCond), (37, .int_i64), (69, .sl_27), (74, .st_Vcond_reader), (87, .sl_9), (97, .st_VToken), (99, .st_VValue), (107, .sl_97), (113, .st_Vnest_found), (135, .sl_5), (202, .sl_2)]
def tc (t : Nat) : TC := match lk tab t with | some c => c | none => .other
def Cn (t : Nat) : Type := Ct (tc t)
def dC : (c : TC) → Ct c
  | .bool => (default : Bool) | .int_i64 => (default : Int) | .int_u8 => (default : UInt8) | .sl_2 => (default : List Int) | .sl_27 => (default : List (List VValue)) | .sl_32 => (default : List VCond) | .sl_5 => (default : List UInt8) | .sl_9 => (default : List Str) | .sl_97 => (default : List VToken) | .sl_99 => (default : List VValue) | .st_VCond => (default : VCond) | .st_VDecl => (default : VDecl) | .st_VToken => (default : VToken) | .st_VValue => (default : VValue) | .st_Vcond_reader => (default : Vcond_reader) | .st_Vnest_found => (default : Vnest_found) | .str => (default : Str) | .other => ()
def size : TC → Nat
  | .st_VCond => 7 | .st_VDecl => 3 | .st_VToken => 5 | .st_VValue => 6 | .st_Vnest_found => 3 | _ => 1
def enc_VToken (x : VToken) : List PV := [.at (.int .u8 x.kind), .str x.text, .at (.int .i64 x.num), .str x.unit, .at (.bool x.flag)]
mutual
def enc_VValue : VValue → List PV
  | ⟨x_token, x_list⟩ => [.at (.int .u8 x_token.kind), .str x_token.text, .at (.int .i64 x_token.num), .str x_token.unit, .at (.bool x_token.flag), .sl (encL_VValue x_list)]
def encL_VValue : List VValue → List (List PV)
  | [] => []
  | v :: r => enc_VValue v :: encL_VValue r
end
theorem encL_VValue_eq : ∀ (l : List VValue), encL_VValue l = l.map enc_VValue
  | [] => by rw [encL_VValue]; rfl
  | v :: r => by rw [encL_VValue, encL_VValue_eq r]; rfl
def enc_VDecl (x : VDecl) : List PV := [.str x.name, .sl (x.value.map enc_VValue), .at (.bool x.important)]
mutual
def enc_VCond : VCond → List PV
  | ⟨x_kind, x_name, x_num, x_decl, x_list⟩ => [.at (.int .u8 x_kind), .str x_name, .at (.int .i64 x_num), .str x_decl.name, .sl (x_decl.value.map enc_VValue), .at (.bool x_decl.important), .sl (encL_VCond x_list)]
def encL_VCond : List VCond → List (List PV)
  | [] => []
  | v :: r => enc_VCond v :: encL_VCond r
end
theorem encL_VCond_eq : ∀ (l : List VCond), encL_VCond l = l.map enc_VCond
  | [] => by rw [encL_VCond]; rfl
  | v :: r => by rw [encL_VCond, encL_VCond_eq r]; rfl
def enc_Vcond_reader (x : Vcond_reader) : List PV := [.sl (x.v.map enc_VValue)]
def enc_Vnest_found (x : Vnest_found) : List PV := [.at (.int .i64 x.depth), .at (.int .i64 x.tokens), .at (.bool x.bad)]
theorem enc_VValue_mk (x_token : VToken) (x_list : List VValue) : enc_VValue ⟨x_token, x_list⟩ = [.at (.int .u8 x_token.kind), .str x_token.text, .at (.int .i64 x_token.num), .str x_token.unit, .at (.bool x_token.flag), .sl (x_list.map enc_VValue)] := by
  simp only [enc_VValue, encL_VValue_eq]
theorem enc_VCond_mk (x_kind : Int) (x_name : Str) (x_num : Int) (x_decl : VDecl) (x_list : List VCond) : enc_VCond ⟨x_kind, x_name, x_num, x_decl, x_list⟩ = [.at (.int .u8 x_kind), .str x_name, .at (.int .i64 x_num), .str x_decl.name, .sl (x_decl.value.map enc_VValue), .at (.bool x_decl.important), .sl (x_list.map enc_VCond)] := by
  simp only [enc_VCond, encL_VCond_eq]
theorem enc_VValue_eta (x : VValue) : enc_VValue x = [.at (.int .u8 x.token.kind), .str x.token.text, .at (.int .i64 x.token.num), .str x.token.unit, .at (.bool x.token.flag), .sl (x.list.map enc_VValue)] := by
  cases x
  exact enc_VValue_mk ..
theorem enc_VCond_eta (x : VCond) : enc_VCond x = [.at (.int .u8 x.kind), .str x.name, .at (.int .i64 x.num), .str x.decl.name, .sl (x.decl.value.map enc_VValue), .at (.bool x.decl.important), .sl (x.list.map enc_VCond)] := by
  cases x
  exact enc_VCond_mk ..
def fC (n : Nat) : (c : TC) → Ct c → List PV
  | .bool, (x : Bool) => [.at (.bool x)]
  | .int_i64, (x : Int) => [.at (.int .i64 x)]
  | .int_u8, (x : UInt8) => [.at (.int .u8 x.toNat)]
  | .sl_2, (x : List Int) => [.sl (x.map (fun y => [.at (.int .i64 y)]))]
  | .sl_27, (x : List (List VValue)) => [.sl (x.map (fun y => [.sl (y.map enc_VValue)]))]
  | .sl_32, (x : List VCond) => [.sl (x.map enc_VCond)]
  | .sl_5, (x : List UInt8) => [.sl (x.map (fun y => [.at (.int .u8 y.toNat)]))]
  | .sl_9, (x : List Str) => [.sl (x.map (fun y => [.str y]))]
  | .sl_97, (x : List VToken) => [.sl (x.map enc_VToken)]
  | .sl_99, (x : List VValue) => [.sl (x.map enc_VValue)]
  | .st_VCond, (x : VCond) => enc_VCond x
  | .st_VDecl, (x : VDecl) => enc_VDecl x
  | .st_VToken, (x : VToken) => enc_VToken x
  | .st_VValue, (x : VValue) => enc_VValue x
  | .st_Vcond_reader, (x : Vcond_reader) => enc_Vcond_reader x
  | .st_Vnest_found, (x : Vnest_found) => enc_Vnest_found x
  | .str, (x : Str) => [.str x]
  | .other, _ => List.replicate n (.at (.slice none 0 0))
def eC (n : Nat) : (c : TC) → Ct c → List (EV Cn)
  | .bool, (x : Bool) => [.bool x]
  | .int_i64, (x : Int) => [.int .i64 x]
  | .int_u8, (x : UInt8) => [.int .u8 (x.toNat : Int)]
  | .sl_2, (x : List Int) => [.sl 2 x]
  | .sl_27, (x : List (List VValue)) => [.sl 27 x]
  | .sl_32, (x : List VCond) => [.sl 32 x]
  | .sl_5, (x : List UInt8) => [.sl 5 x]
  | .sl_9, (x : List Str) => [.sl 9 x]
  | .sl_97, (x : List VToken) => [.sl 97 x]
  | .sl_99, (x : List VValue) => [.sl 99 x]
  | .st_VCond, (x : VCond) => [.int .u8 x.kind, .str x.name, .int .i64 x.num, .str x.decl.name, .sl 99 x.decl.value, .bool x.decl.important, .sl 32 x.list]
  | .st_VDecl, (x : VDecl) => [.str x.name, .sl 99 x.value, .bool x.important]
  | .st_VToken, (x : VToken) => [.int .u8 x.kind, .str x.text, .int .i64 x.num, .str x.unit, .bool x.flag]
  | .st_VValue, (x : VValue) => [.int .u8 x.token.kind, .str x.token.text, .int .i64 x.token.num, .str x.token.unit, .bool x.token.flag, .sl 99 x.list]
  | .st_Vcond_reader, (x : Vcond_reader) => [.sl 99 x.v]
  | .st_Vnest_found, (x : Vnest_found) => [.int .i64 x.depth, .int .i64 x.tokens, .bool x.bad]
  | .str, (x : Str) => [.str x]
  | .other, _ => List.replicate n .nil
def dInt_i64 : EV Cn → Option Int
  | .int .i64 n => some n
  | _ => none
def dInt_u8 : EV Cn → Option Int
  | .int .u8 n => some n
  | _ => none
def dBool : EV Cn → Option Bool
  | .bool b => some b
  | _ => none
def dStr : EV Cn → Option Str
  | .str l => some l
  | _ => none
def dSl_2 : EV Cn → Option (List Int)
  | .nil => some []
  | .sl 2 l => some l
  | _ => none
def dSl_5 : EV Cn → Option (List UInt8)
  | .nil => some []
  | .sl 5 l => some l
  | _ => none
def dSl_9 : EV Cn → Option (List Str)
  | .nil => some []
  | .sl 9 l => some l
  | _ => none
def dSl_27 : EV Cn → Option (List (List VValue))
  | .nil => some []
  | .sl 27 l => some l
  | _ => none
def dSl_32 : EV Cn → Option (List VCond)
  | .nil => some []
  | .sl 32 l => some l
  | _ => none
def dSl_97 : EV Cn → Option (List VToken)
  | .nil => some []
  | .sl 97 l => some l
  | _ => none
def dSl_99 : EV Cn → Option (List VValue)
  | .nil => some []
  | .sl 99 l => some l
  | _ => none
def mC : (c : TC) → List (EV Cn) → Option (Ct c)
  | .bool => fun cs => match cs with | [a0] => (dBool a0).bind fun x0 => some x0 | _ => none
  | .int_i64 => fun cs => match cs with | [a0] => (dInt_i64 a0).bind fun x0 => some x0 | _ => none
  | .int_u8 => fun cs => match cs with | [a0] => (dInt_u8 a0).bind byteO | _ => none
  | .sl_2 => fun cs => match cs with | [a0] => (dSl_2 a0).bind fun x0 => some x0 | _ => none
  | .sl_27 => fun cs => match cs with | [a0] => (dSl_27 a0).bind fun x0 => some x0 | _ => none
  | .sl_32 => fun cs => match cs with | [a0] => (dSl_32 a0).bind fun x0 => some x0 | _ => none
  | .sl_5 => fun cs => match cs with | [a0] => (dSl_5 a0).bind fun x0 => some x0 | _ => none
  | .sl_9 => fun cs => match cs with | [a0] => (dSl_9 a0).bind fun x0 => some x0 | _ => none
  | .sl_97 => fun cs => match cs with | [a0] => (dSl_97 a0).bind fun x0 => some x0 | _ => none
  | .sl_99 => fun cs => match cs with | [a0] => (dSl_99 a0).bind fun x0 => some x0 | _ => none
  | .st_VCond => fun cs => match cs with | [a0, a1, a2, a3, a4, a5, a6] => (dInt_u8 a0).bind fun x0 => (dStr a1).bind fun x1 => (dInt_i64 a2).bind fun x2 => (dStr a3).bind fun x3 => (dSl_99 a4).bind fun x4 => (dBool a5).bind fun x5 => (dSl_32 a6).bind fun x6 => some (⟨x0, x1, x2, (⟨x3, x4, x5⟩ : VDecl), x6⟩ : VCond) | _ => none
  | .st_VDecl => fun cs => match cs with | [a0, a1, a2] => (dStr a0).bind fun x0 => (dSl_99 a1).bind fun x1 => (dBool a2).bind fun x2 => some (⟨x0, x1, x2⟩ : VDecl) | _ => none
  | .st_VToken => fun cs => match cs with | [a0, a1, a2, a3, a4] => (dInt_u8 a0).bind fun x0 => (dStr a1).bind fun x1 => (dInt_i64 a2).bind fun x2 => (dStr a3).bind fun x3 => (dBool a4).bind fun x4 => some (⟨x0, x1, x2, x3, x4⟩ : VToken) | _ => none
  | .st_VValue => fun cs => match cs with | [a0, a1, a2, a3, a4, a5] => (dInt_u8 a0).bind fun x0 => (dStr a1).bind fun x1 => (dInt_i64 a2).bind fun x2 => (dStr a3).bind fun x3 => (dBool a4).bind fun x4 => (dSl_99 a5).bind fun x5 => some (⟨(⟨x0, x1, x2, x3, x4⟩ : VToken), x5⟩ : VValue) | _ => none
  | .st_Vcond_reader => fun cs => match cs with | [a0] => (dSl_99 a0).bind fun x0 => some (⟨x0⟩ : Vcond_reader) | _ => none
  | .st_Vnest_found => fun cs => match cs with | [a0, a1, a2] => (dInt_i64 a0).bind fun x0 => (dInt_i64 a1).bind fun x1 => (dBool a2).bind fun x2 => some (⟨x0, x1, x2⟩ : Vnest_found) | _ => none
  | .str => fun cs => match cs with | [a0] => (dStr a0).bind fun x0 => some x0 | _ => none
  | .other => fun _ => none
def bC : (c : TC) → Option ((List UInt8 → List (Ct c)) × (List (Ct c) → List UInt8))
  | .int_u8 => some (fun l => l, fun l => l)
  | _ => none
noncomputable def I : Ip := ⟨Cn, fun t => dC (tc t), fun t => eC (Tryz.prog.cellsOf t) (tc t), fun t => mC (tc t), fun t => fC (Tryz.prog.cellsOf t) (tc t), fun t => bC (tc t)⟩
theorem tab_ok : (tab.all fun p => Nat.beq (Tryz.prog.cellsOf p.1) (size p.2)) = true := by kernel_rfl
theorem cells_tc (t : Nat) (h : tc t ≠ .other) : Tryz.prog.cellsOf t = size (tc t) := by
  unfold tc at h ⊢
  cases hl : lk tab t with
  | none => rw [hl] at h; exact absurd rfl h
  | some c =>
    simp only
    exact Nat.eq_of_beq_eq_true (List.all_eq_true.1 tab_ok _ (lk_mem hl))
def Dec (a : EV Cn) (p : PV) : Prop := pureV (I := I) a = true ∧ WkP (pvE I a) p
theorem decs {cs : List (EV Cn)} {ps : List PV} (h : All2 Dec cs ps) : (∀ v ∈ cs, pureV (I := I) v = true) ∧ cs.length = ps.length ∧ ∀ (j : Nat) (a b : PV), (cs.map (pvE I))[j]? = some a → ps[j]? = some b → WkP a b := by
  induction h with
  | nil => exact ⟨fun v hv => (by cases hv), rfl, fun j a b ha => (by cases ha)⟩
  | cons h1 _ ih =>
    refine ⟨fun v hv => ?_, congrArg Nat.succ ih.2.1, fun j a b ha hb => ?_⟩
    · rcases List.mem_cons.1 hv with rfl | hv
      · exact h1.1
      · exact ih.1 v hv
    · cases j with
      | zero => injection ha with ha; injection hb with hb; rw [← ha, ← hb]; exact h1.2
      | succ j => exact ih.2.2 j a b ha hb
theorem dInt_i64_ok {a : EV Cn} {x : Int} (h : dInt_i64 a = some x) : Dec a (.at (.int .i64 x)) := by
  unfold dInt_i64 at h
  split at h
  · cases h; exact ⟨rfl, .refl _⟩
  · cases h
theorem dInt_u8_ok {a : EV Cn} {x : Int} (h : dInt_u8 a = some x) : Dec a (.at (.int .u8 x)) := by
  unfold dInt_u8 at h
  split at h
  · cases h; exact ⟨rfl, .refl _⟩
  · cases h
theorem dBool_ok {a : EV Cn} {x : Bool} (h : dBool a = some x) : Dec a (.at (.bool x)) := by
  unfold dBool at h
  split at h
  · cases h; exact ⟨rfl, .refl _⟩
  · cases h
theorem dStr_ok {a : EV Cn} {x : Str} (h : dStr a = some x) : Dec a (.str x) := by
  unfold dStr at h
  split at h
  · cases h; exact ⟨rfl, .refl _⟩
  · cases h
theorem dSl_2_ok {a : EV Cn} {x : List Int} (h : dSl_2 a = some x) : Dec a (.sl (x.map (I.full 2))) := by
  unfold dSl_2 at h
  split at h
  · cases h; exact ⟨rfl, .nil⟩
  · cases h; exact ⟨rfl, .refl _⟩
  · cases h
theorem dSl_5_ok {a : EV Cn} {x : List UInt8} (h : dSl_5 a = some x) : Dec a (.sl (x.map (I.full 5))) := by
  unfold dSl_5 at h
  split at h
  · cases h; exact ⟨rfl, .nil⟩
  · cases h; exact ⟨rfl, .refl _⟩
  · cases h
theorem dSl_9_ok {a : EV Cn} {x : List Str} (h : dSl_9 a = some x) : Dec a (.sl (x.map (I.full 9))) := by
  unfold dSl_9 at h
  split at h
  · cases h; exact ⟨rfl, .nil⟩
  · cases h; exact ⟨rfl, .refl _⟩
  · cases h
theorem dSl_27_ok {a : EV Cn} {x : List (List VValue)} (h : dSl_27 a = some x) : Dec a (.sl (x.map (I.full 27))) := by
  unfold dSl_27 at h
  split at h
  · cases h; exact ⟨rfl, .nil⟩
  · cases h; exact ⟨rfl, .refl _⟩
  · cases h
theorem dSl_32_ok {a : EV Cn} {x : List VCond} (h : dSl_32 a = some x) : Dec a (.sl (x.map (I.full 32))) := by
  unfold dSl_32 at h
  split at h
  · cases h; exact ⟨rfl, .nil⟩
  · cases h; exact ⟨rfl, .refl _⟩
  · cases h
theorem dSl_97_ok {a : EV Cn} {x : List VToken} (h : dSl_97 a = some x) : Dec a (.sl (x.map (I.full 97))) := by
  unfold dSl_97 at h
  split at h
  · cases h; exact ⟨rfl, .nil⟩
  · cases h; exact ⟨rfl, .refl _⟩
  · cases h
theorem dSl_99_ok {a : EV Cn} {x : List VValue} (h : dSl_99 a = some x) : Dec a (.sl (x.map (I.full 99))) := by
  unfold dSl_99 at h
  split at h
  · cases h; exact ⟨rfl, .nil⟩
  · cases h; exact ⟨rfl, .refl _⟩
  · cases h
theorem made_ok (n : Nat) : ∀ (c : TC) (cs : List (EV Cn)) (x : Ct c), mC c cs = some x → All2 Dec cs (fC n c x)
  | .bool, cs, x, h => by
    simp only [mC] at h
    split at h
    · obtain ⟨x0, h0, h⟩ := Option.bind_eq_some_iff.1 h
      injection h with h
      subst h
      exact .cons (dBool_ok h0) .nil
    · cases h
  | .int_i64, cs, x, h => by
    simp only [mC] at h
    split at h
    · obtain ⟨x0, h0, h⟩ := Option.bind_eq_some_iff.1 h
      injection h with h
      subst h
      exact .cons (dInt_i64_ok h0) .nil
    · cases h
  | .int_u8, cs, x, h => by
    simp only [mC] at h
    split at h
    · obtain ⟨x0, h0, h⟩ := Option.bind_eq_some_iff.1 h
      have := byteO_nat h
      subst this
      exact .cons (dInt_u8_ok h0) .nil
    · cases h
  | .sl_2, cs, x, h => by
    simp only [mC] at h
    split at h
    · obtain ⟨x0, h0, h⟩ := Option.bind_eq_some_iff.1 h
      injection h with h
      subst h
      exact .cons (dSl_2_ok h0) .nil
    · cases h
  | .sl_27, cs, x, h => by
    simp only [mC] at h
    split at h
    · obtain ⟨x0, h0, h⟩ := Option.bind_eq_some_iff.1 h
      injection h with h
      subst h
      exact .cons (dSl_27_ok h0) .nil
    · cases h
  | .sl_32, cs, x, h => by
    simp only [mC] at h
    split at h
    · obtain ⟨x0, h0, h⟩ := Option.bind_eq_some_iff.1 h
      injection h with h
      subst h
      exact .cons (dSl_32_ok h0) .nil
    · cases h
  | .sl_5, cs, x, h => by
    simp only [mC] at h
    split at h
    · obtain ⟨x0, h0, h⟩ := Option.bind_eq_some_iff.1 h
      injection h with h
      subst h
      exact .cons (dSl_5_ok h0) .nil
    · cases h
  | .sl_9, cs, x, h => by
    simp only [mC] at h
    split at h
    · obtain ⟨x0, h0, h⟩ := Option.bind_eq_some_iff.1 h
      injection h with h
      subst h
      exact .cons (dSl_9_ok h0) .nil
    · cases h
  | .sl_97, cs, x, h => by
    simp only [mC] at h
    split at h
    · obtain ⟨x0, h0, h⟩ := Option.bind_eq_some_iff.1 h
      injection h with h
      subst h
      exact .cons (dSl_97_ok h0) .nil
    · cases h
  | .sl_99, cs, x, h => by
    simp only [mC] at h
    split at h
    · obtain ⟨x0, h0, h⟩ := Option.bind_eq_some_iff.1 h
      injection h with h
      subst h
      exact .cons (dSl_99_ok h0) .nil
    · cases h
  | .st_VCond, cs, x, h => by
    simp only [mC] at h
    split at h
    · obtain ⟨x0, h0, h⟩ := Option.bind_eq_some_iff.1 h
      obtain ⟨x1, h1, h⟩ := Option.bind_eq_some_iff.1 h
      obtain ⟨x2, h2, h⟩ := Option.bind_eq_some_iff.1 h
      obtain ⟨x3, h3, h⟩ := Option.bind_eq_some_iff.1 h
      obtain ⟨x4, h4, h⟩ := Option.bind_eq_some_iff.1 h
      obtain ⟨x5, h5, h⟩ := Option.bind_eq_some_iff.1 h
      obtain ⟨x6, h6, h⟩ := Option.bind_eq_some_iff.1 h
      injection h with h
      subst h
      show All2 Dec _ (enc_VCond _)
      simp only [enc_VCond, encL_VCond_eq]
      exact .cons (dInt_u8_ok h0) (.cons (dStr_ok h1) (.cons (dInt_i64_ok h2) (.cons (dStr_ok h3) (.cons (dSl_99_ok h4) (.cons (dBool_ok h5) (.cons (dSl_32_ok h6) .nil))))))
    · cases h
  | .st_VDecl, cs, x, h => by
    simp only [mC] at h
    split at h
    · obtain ⟨x0, h0, h⟩ := Option.bind_eq_some_iff.1 h
      obtain ⟨x1, h1, h⟩ := Option.bind_eq_some_iff.1 h
      obtain ⟨x2, h2, h⟩ := Option.bind_eq_some_iff.1 h
      injection h with h
      subst h
      exact .cons (dStr_ok h0) (.cons (dSl_99_ok h1) (.cons (dBool_ok h2) .nil))
    · cases h
  | .st_VToken, cs, x, h => by
    simp only [mC] at h
    split at h
    · obtain ⟨x0, h0, h⟩ := Option.bind_eq_some_iff.1 h
      obtain ⟨x1, h1, h⟩ := Option.bind_eq_some_iff.1 h
      obtain ⟨x2, h2, h⟩ := Option.bind_eq_some_iff.1 h
      obtain ⟨x3, h3, h⟩ := Option.bind_eq_some_iff.1 h
      obtain ⟨x4, h4, h⟩ := Option.bind_eq_some_iff.1 h
      injection h with h
      subst h
      exact .cons (dInt_u8_ok h0) (.cons (dStr_ok h1) (.cons (dInt_i64_ok h2) (.cons (dStr_ok h3) (.cons (dBool_ok h4) .nil))))
    · cases h
  | .st_VValue, cs, x, h => by
    simp only [mC] at h
    split at h
    · obtain ⟨x0, h0, h⟩ := Option.bind_eq_some_iff.1 h
      obtain ⟨x1, h1, h⟩ := Option.bind_eq_some_iff.1 h
      obtain ⟨x2, h2, h⟩ := Option.bind_eq_some_iff.1 h
      obtain ⟨x3, h3, h⟩ := Option.bind_eq_some_iff.1 h
      obtain ⟨x4, h4, h⟩ := Option.bind_eq_some_iff.1 h
      obtain ⟨x5, h5, h⟩ := Option.bind_eq_some_iff.1 h
      injection h with h
      subst h
      show All2 Dec _ (enc_VValue _)
      simp only [enc_VValue, encL_VValue_eq]
      exact .cons (dInt_u8_ok h0) (.cons (dStr_ok h1) (.cons (dInt_i64_ok h2) (.cons (dStr_ok h3) (.cons (dBool_ok h4) (.cons (dSl_99_ok h5) .nil)))))
    · cases h
  | .st_Vcond_reader, cs, x, h => by
    simp only [mC] at h
    split at h
    · obtain ⟨x0, h0, h⟩ := Option.bind_eq_some_iff.1 h
      injection h with h
      subst h
      exact .cons (dSl_99_ok h0) .nil
    · cases h
  | .st_Vnest_found, cs, x, h => by
    simp only [mC] at h
    split at h
    · obtain ⟨x0, h0, h⟩ := Option.bind_eq_some_iff.1 h
      obtain ⟨x1, h1, h⟩ := Option.bind_eq_some_iff.1 h
      obtain ⟨x2, h2, h⟩ := Option.bind_eq_some_iff.1 h
      injection h with h
      subst h
      exact .cons (dInt_i64_ok h0) (.cons (dInt_i64_ok h1) (.cons (dBool_ok h2) .nil))
    · cases h
  | .str, cs, x, h => by
    simp only [mC] at h
    split at h
    · obtain ⟨x0, h0, h⟩ := Option.bind_eq_some_iff.1 h
      injection h with h
      subst h
      exact .cons (dStr_ok h0) .nil
    · cases h
  | .other, cs, x, h => by cases h
theorem fe (n : Nat) : ∀ (c : TC) (x : Ct c), fC n c x = (eC n c x).map (pvE I)
  | .bool, x => rfl
  | .int_i64, x => rfl
  | .int_u8, x => rfl
  | .sl_2, x => rfl
  | .sl_27, x => rfl
  | .sl_32, x => rfl
  | .sl_5, x => rfl
  | .sl_9, x => rfl
  | .sl_97, x => rfl
  | .sl_99, x => rfl
  | .st_VCond, (x : VCond) => by
    obtain ⟨x_kind, x_name, x_num, x_decl, x_list⟩ := x
    show enc_VCond _ = _
    simp only [enc_VCond, encL_VCond_eq]
    rfl
  | .st_VDecl, x => rfl
  | .st_VToken, x => rfl
  | .st_VValue, (x : VValue) => by
    obtain ⟨x_token, x_list⟩ := x
    show enc_VValue _ = _
    simp only [enc_VValue, encL_VValue_eq]
    rfl
  | .st_Vcond_reader, x => rfl
  | .st_Vnest_found, x => rfl
  | .str, x => rfl
  | .other, x => by
    show List.replicate n (PV.at (Value.slice none 0 0)) = (List.replicate n EV.nil).map (pvE I)
    rw [List.map_replicate]
    rfl
theorem eC_len (n : Nat) (c : TC) (x : Ct c) (h : c ≠ .other → n = size c) : (eC n c x).length = n := by
  cases c
  case other => simp [eC]
  all_goals (rw [h (by simp)]; rfl)
theorem eC_pure (n : Nat) : ∀ (c : TC) (x : Ct c), (eC n c x).all (pureV (I := I)) = true
  | .bool, x => rfl
  | .int_i64, x => rfl
  | .int_u8, x => rfl
  | .sl_2, x => rfl
  | .sl_27, x => rfl
  | .sl_32, x => rfl
  | .sl_5, x => rfl
  | .sl_9, x => rfl
  | .sl_97, x => rfl
  | .sl_99, x => rfl
  | .st_VCond, x => rfl
  | .st_VDecl, x => rfl
  | .st_VToken, x => rfl
  | .st_VValue, x => rfl
  | .st_Vcond_reader, x => rfl
  | .st_Vnest_found, x => rfl
  | .str, x => rfl
  | .other, x => by
    show (List.replicate n EV.nil).all (pureV (I := I)) = true
    rw [List.all_eq_true]
    intro v hv
    rw [(List.mem_replicate.1 hv).2]
    rfl
theorem tab_u8 : (tab.all fun p => match p.2 with | .int_u8 => (match kdOf Tryz.prog p.1 with | .int .u8 => true | _ => false) | _ => true) = true := by kernel_rfl
theorem kd_u8 (t : Nat) (h : tc t = .int_u8) : kdOf Tryz.prog t = .int .u8 := by
  unfold tc at h
  cases hl : lk tab t with
  | none => rw [hl] at h; cases h
  | some c =>
    rw [hl] at h
    have h : c = .int_u8 := h
    subst h
    have := List.all_eq_true.1 tab_u8 _ (lk_mem hl)
    simp only at this
    split at this
    · assumption
    · cases this
theorem byt_gen (n : Nat) : ∀ (c : TC) (p : (List UInt8 → List (Ct c)) × (List (Ct c) → List UInt8)), bC c = some p → (∀ l, (p.1 l).map (fC n c) = l.map fun b => [PV.at (.int .u8 b.toNat)]) ∧ (∀ l, l.map (fC n c) = (p.2 l).map fun b => [PV.at (.int .u8 b.toNat)]) ∧ c = .int_u8 := by
  intro c p h
  cases c
  case int_u8 => cases h; exact ⟨fun l => rfl, fun l => rfl, rfl⟩
  all_goals cases h
theorem byt_ok (t : Nat) (p : (List UInt8 → List (I.C t)) × (List (I.C t) → List UInt8)) (h : I.byt t = some p) : (∀ l, (p.1 l).map (I.full t) = l.map fun b => [PV.at (.int .u8 b.toNat)]) ∧ (∀ l, l.map (I.full t) = (p.2 l).map fun b => [PV.at (.int .u8 b.toNat)]) ∧ kdOf Tryz.prog t = .int .u8 := by
  obtain ⟨h1, h2, h3⟩ := byt_gen (Tryz.prog.cellsOf t) (tc t) p h
  exact ⟨h1, h2, kd_u8 t h3⟩
theorem ipOK : IpOK Tryz.prog I where
  len := fun t x => by
    show (fC _ _ x).length = _
    exact (congrArg List.length (fe _ (tc t) x)).trans ((List.length_map ..).trans (eC_len _ (tc t) x (cells_tc t)))
  exp := fun t x => fe _ _ x
  pur := fun t x v hv => List.all_eq_true.1 (eC_pure _ _ x) v hv
  made := fun t cs x h => decs (made_ok _ _ cs x h)
  byt := byt_ok
noncomputable def T : TT := [(2, ti Tryz.prog 2), (3, ti Tryz.prog 3), (4, ti Tryz.prog 4), (5, ti Tryz.prog 5), (9, ti Tryz.prog 9), (27, ti Tryz.prog 27), (29, ti Tryz.prog 29), (30, ti Tryz.prog 30), (32, ti Tryz.prog 32), (37, ti Tryz.prog 37), (69, ti Tryz.prog 69), (72, ti Tryz.prog 72), (74, ti Tryz.prog 74), (87, ti Tryz.prog 87), (97, ti Tryz.prog 97), (99, ti Tryz.prog 99), (107, ti Tryz.prog 107), (113, ti Tryz.prog 113), (115, ti Tryz.prog 115), (118, ti Tryz.prog 118), (135, ti Tryz.prog 135), (202, ti Tryz.prog 202)]
def FK : List (Nat × List Kd) := [(97, [.int .u8, .str, .int .i64, .str, .bool])]
theorem tok : TOK Tryz.prog T FK := tok_of (l := [2, 3, 4, 5, 9, 27, 29, 30, 32, 37, 69, 72, 74, 87, 97, 99, 107, 113, 115, 118, 135, 202]) (by
  intro p hp
  simp only [FK, List.mem_cons, List.not_mem_nil, or_false] at hp
  rcases hp with rfl <;> kernel_rfl)
theorem mixed : Tryz.prog.follows .mixedOrders = true := by kernel_rfl
noncomputable def body (f : Go.Func) : Code := match f.body with | some c => c | none => .skip
noncomputable def rsl (f : Go.Func) : List ResultVar := f.results.toList
end Go.Lv.VT

namespace Go.Lv.VT
set_option maxRecDepth 100000
open Go.Proofs
def gd : List Nat := [2, 3, 4, 5, 9, 27, 29, 30, 32, 37, 69, 74, 87, 97, 99, 107, 113, 135, 202]
theorem und_2 : Tryz.prog.underlying 2 = some (.int .i64) := by kernel_rfl
theorem und_3 : Tryz.prog.underlying 3 = some (.int .i64) := by kernel_rfl
theorem und_4 : Tryz.prog.underlying 4 = some (.bool) := by kernel_rfl
theorem und_5 : Tryz.prog.underlying 5 = some (.int .u8) := by kernel_rfl
theorem und_9 : Tryz.prog.underlying 9 = some (.string) := by kernel_rfl
theorem und_27 : Tryz.prog.underlying 27 = some (.slice 99) := by kernel_rfl
theorem und_29 : ∃ fs, Tryz.prog.underlying 29 = some (.struct fs) := ⟨(match Tryz.prog.underlying 29 with | some (.struct fs) => fs | _ => #[]), by kernel_rfl⟩
theorem fld_29 : fldsOf Tryz.prog 29 = [(9, 0), (27, 1), (4, 2)] := by kernel_rfl
theorem und_30 : Tryz.prog.underlying 30 = some (.slice 32) := by kernel_rfl
theorem und_32 : ∃ fs, Tryz.prog.underlying 32 = some (.struct fs) := ⟨(match Tryz.prog.underlying 32 with | some (.struct fs) => fs | _ => #[]), by kernel_rfl⟩
theorem fld_32 : fldsOf Tryz.prog 32 = [(5, 0), (9, 1), (2, 2), (29, 3), (30, 6)] := by kernel_rfl
theorem und_37 : Tryz.prog.underlying 37 = some (.int .i64) := by kernel_rfl
theorem und_69 : Tryz.prog.underlying 69 = some (.slice 27) := by kernel_rfl
theorem und_74 : ∃ fs, Tryz.prog.underlying 74 = some (.struct fs) := ⟨(match Tryz.prog.underlying 74 with | some (.struct fs) => fs | _ => #[]), by kernel_rfl⟩
theorem fld_74 : fldsOf Tryz.prog 74 = [(27, 0)] := by kernel_rfl
theorem und_87 : Tryz.prog.underlying 87 = some (.slice 9) := by kernel_rfl
theorem und_97 : ∃ fs, Tryz.prog.underlying 97 = some (.struct fs) := ⟨(match Tryz.prog.underlying 97 with | some (.struct fs) => fs | _ => #[]), by kernel_rfl⟩
theorem fld_97 : fldsOf Tryz.prog 97 = [(5, 0), (9, 1), (2, 2), (9, 3), (4, 4)] := by kernel_rfl
theorem und_99 : ∃ fs, Tryz.prog.underlying 99 = some (.struct fs) := ⟨(match Tryz.prog.underlying 99 with | some (.struct fs) => fs | _ => #[]), by kernel_rfl⟩
theorem fld_99 : fldsOf Tryz.prog 99 = [(97, 0), (27, 5)] := by kernel_rfl
theorem und_107 : Tryz.prog.underlying 107 = some (.slice 97) := by kernel_rfl
theorem und_113 : ∃ fs, Tryz.prog.underlying 113 = some (.struct fs) := ⟨(match Tryz.prog.underlying 113 with | some (.struct fs) => fs | _ => #[]), by kernel_rfl⟩
theorem fld_113 : fldsOf Tryz.prog 113 = [(3, 0), (3, 1), (4, 2)] := by kernel_rfl
theorem und_135 : Tryz.prog.underlying 135 = some (.slice 5) := by kernel_rfl
theorem und_202 : Tryz.prog.underlying 202 = some (.slice 2) := by kernel_rfl
theorem ipRd : IpRd Tryz.prog I (fun t => t ∈ gd) where
  int := fun t k hg hu n h1 h2 => by
    simp only [gd, List.mem_cons, List.not_mem_nil, or_false] at hg
    rcases hg with rfl | rfl | rfl | rfl | rfl | rfl | rfl | rfl | rfl | rfl | rfl | rfl | rfl | rfl | rfl | rfl | rfl | rfl | rfl
    · rw [und_2] at hu; cases hu; exact ⟨(n : Int), rfl⟩
    · rw [und_3] at hu; cases hu; exact ⟨(n : Int), rfl⟩
    · rw [und_4] at hu; cases hu
    · rw [und_5] at hu; cases hu; exact ⟨UInt8.ofNat n.toNat, u8_row h1 h2⟩
    · rw [und_9] at hu; cases hu
    · rw [und_27] at hu; cases hu
    · obtain ⟨fs, e⟩ := und_29; rw [e] at hu; cases hu
    · rw [und_30] at hu; cases hu
    · obtain ⟨fs, e⟩ := und_32; rw [e] at hu; cases hu
    · rw [und_37] at hu; cases hu; exact ⟨(n : Int), rfl⟩
    · rw [und_69] at hu; cases hu
    · obtain ⟨fs, e⟩ := und_74; rw [e] at hu; cases hu
    · rw [und_87] at hu; cases hu
    · obtain ⟨fs, e⟩ := und_97; rw [e] at hu; cases hu
    · obtain ⟨fs, e⟩ := und_99; rw [e] at hu; cases hu
    · rw [und_107] at hu; cases hu
    · obtain ⟨fs, e⟩ := und_113; rw [e] at hu; cases hu
    · rw [und_135] at hu; cases hu
    · rw [und_202] at hu; cases hu
  bool := fun t hg hu b => by
    simp only [gd, List.mem_cons, List.not_mem_nil, or_false] at hg
    rcases hg with rfl | rfl | rfl | rfl | rfl | rfl | rfl | rfl | rfl | rfl | rfl | rfl | rfl | rfl | rfl | rfl | rfl | rfl | rfl
    · rw [und_2] at hu; cases hu
    · rw [und_3] at hu; cases hu
    · exact ⟨(b : Bool), rfl⟩
    · rw [und_5] at hu; cases hu
    · rw [und_9] at hu; cases hu
    · rw [und_27] at hu; cases hu
    · obtain ⟨fs, e⟩ := und_29; rw [e] at hu; cases hu
    · rw [und_30] at hu; cases hu
    · obtain ⟨fs, e⟩ := und_32; rw [e] at hu; cases hu
    · rw [und_37] at hu; cases hu
    · rw [und_69] at hu; cases hu
    · obtain ⟨fs, e⟩ := und_74; rw [e] at hu; cases hu
    · rw [und_87] at hu; cases hu
    · obtain ⟨fs, e⟩ := und_97; rw [e] at hu; cases hu
    · obtain ⟨fs, e⟩ := und_99; rw [e] at hu; cases hu
    · rw [und_107] at hu; cases hu
    · obtain ⟨fs, e⟩ := und_113; rw [e] at hu; cases hu
    · rw [und_135] at hu; cases hu
    · rw [und_202] at hu; cases hu
  str := fun t hg hu l => by
    simp only [gd, List.mem_cons, List.not_mem_nil, or_false] at hg
    rcases hg with rfl | rfl | rfl | rfl | rfl | rfl | rfl | rfl | rfl | rfl | rfl | rfl | rfl | rfl | rfl | rfl | rfl | rfl | rfl
    · rw [und_2] at hu; cases hu
    · rw [und_3] at hu; cases hu
    · rw [und_4] at hu; cases hu
    · rw [und_5] at hu; cases hu
    · exact ⟨(l : Str), rfl⟩
    · rw [und_27] at hu; cases hu
    · obtain ⟨fs, e⟩ := und_29; rw [e] at hu; cases hu
    · rw [und_30] at hu; cases hu
    · obtain ⟨fs, e⟩ := und_32; rw [e] at hu; cases hu
    · rw [und_37] at hu; cases hu
    · rw [und_69] at hu; cases hu
    · obtain ⟨fs, e⟩ := und_74; rw [e] at hu; cases hu
    · rw [und_87] at hu; cases hu
    · obtain ⟨fs, e⟩ := und_97; rw [e] at hu; cases hu
    · obtain ⟨fs, e⟩ := und_99; rw [e] at hu; cases hu
    · rw [und_107] at hu; cases hu
    · obtain ⟨fs, e⟩ := und_113; rw [e] at hu; cases hu
    · rw [und_135] at hu; cases hu
    · rw [und_202] at hu; cases hu
  sl := fun t e hg hu => by
    simp only [gd, List.mem_cons, List.not_mem_nil, or_false] at hg
    rcases hg with rfl | rfl | rfl | rfl | rfl | rfl | rfl | rfl | rfl | rfl | rfl | rfl | rfl | rfl | rfl | rfl | rfl | rfl | rfl
    · rw [und_2] at hu; cases hu
    · rw [und_3] at hu; cases hu
    · rw [und_4] at hu; cases hu
    · rw [und_5] at hu; cases hu
    · rw [und_9] at hu; cases hu
    · rw [und_27] at hu; cases hu; exact ⟨by simp [gd], Nat.lt_of_lt_of_eq (by decide : 0 < 6) (by kernel_rfl : 6 = Tryz.prog.cellsOf 99), fun l => ⟨(l : List VValue), rfl⟩⟩
    · obtain ⟨fs, e⟩ := und_29; rw [e] at hu; cases hu
    · rw [und_30] at hu; cases hu; exact ⟨by simp [gd], Nat.lt_of_lt_of_eq (by decide : 0 < 7) (by kernel_rfl : 7 = Tryz.prog.cellsOf 32), fun l => ⟨(l : List VCond), rfl⟩⟩
    · obtain ⟨fs, e⟩ := und_32; rw [e] at hu; cases hu
    · rw [und_37] at hu; cases hu
    · rw [und_69] at hu; cases hu; exact ⟨by simp [gd], Nat.lt_of_lt_of_eq (by decide : 0 < 1) (by kernel_rfl : 1 = Tryz.prog.cellsOf 27), fun l => ⟨(l : List (List VValue)), rfl⟩⟩
    · obtain ⟨fs, e⟩ := und_74; rw [e] at hu; cases hu
    · rw [und_87] at hu; cases hu; exact ⟨by simp [gd], Nat.lt_of_lt_of_eq (by decide : 0 < 1) (by kernel_rfl : 1 = Tryz.prog.cellsOf 9), fun l => ⟨(l : List Str), rfl⟩⟩
    · obtain ⟨fs, e⟩ := und_97; rw [e] at hu; cases hu
    · obtain ⟨fs, e⟩ := und_99; rw [e] at hu; cases hu
    · rw [und_107] at hu; cases hu; exact ⟨by simp [gd], Nat.lt_of_lt_of_eq (by decide : 0 < 5) (by kernel_rfl : 5 = Tryz.prog.cellsOf 97), fun l => ⟨(l : List VToken), rfl⟩⟩
    · obtain ⟨fs, e⟩ := und_113; rw [e] at hu; cases hu
    · rw [und_135] at hu; cases hu; exact ⟨by simp [gd], Nat.lt_of_lt_of_eq (by decide : 0 < 1) (by kernel_rfl : 1 = Tryz.prog.cellsOf 5), fun l => ⟨(l : List UInt8), rfl⟩⟩
    · rw [und_202] at hu; cases hu; exact ⟨by simp [gd], Nat.lt_of_lt_of_eq (by decide : 0 < 1) (by kernel_rfl : 1 = Tryz.prog.cellsOf 2), fun l => ⟨(l : List Int), rfl⟩⟩
  st := fun t fs hg hu => by
    simp only [gd, List.mem_cons, List.not_mem_nil, or_false] at hg
    rcases hg with rfl | rfl | rfl | rfl | rfl | rfl | rfl | rfl | rfl | rfl | rfl | rfl | rfl | rfl | rfl | rfl | rfl | rfl | rfl
    · rw [und_2] at hu; cases hu
    · rw [und_3] at hu; cases hu
    · rw [und_4] at hu; cases hu
    · rw [und_5] at hu; cases hu
    · rw [und_9] at hu; cases hu
    · rw [und_27] at hu; cases hu
    · refine st_of hu fld_29 (by simp [gd]) (by kernel_rfl) (by kernel_rfl) (fun pvs h0 => ?_)
      obtain ⟨_, pvs, rfl, ⟨y0, rfl⟩, h1⟩ := all2_cons h0
      obtain ⟨_, pvs, rfl, ⟨y1, rfl⟩, h2⟩ := all2_cons h1
      obtain ⟨_, pvs, rfl, ⟨y2, rfl⟩, h3⟩ := all2_cons h2
      rw [all2_nil h3]
      exact ⟨(⟨y0, y1, y2⟩ : VDecl), rfl⟩
    · rw [und_30] at hu; cases hu
    · refine st_of hu fld_32 (by simp [gd]) (by kernel_rfl) (by kernel_rfl) (fun pvs h0 => ?_)
      obtain ⟨_, pvs, rfl, ⟨y0, rfl⟩, h1⟩ := all2_cons h0
      obtain ⟨_, pvs, rfl, ⟨y1, rfl⟩, h2⟩ := all2_cons h1
      obtain ⟨_, pvs, rfl, ⟨y2, rfl⟩, h3⟩ := all2_cons h2
      obtain ⟨_, pvs, rfl, ⟨y3, rfl⟩, h4⟩ := all2_cons h3
      obtain ⟨_, pvs, rfl, ⟨y4, rfl⟩, h5⟩ := all2_cons h4
      rw [all2_nil h5]
      exact ⟨(⟨((UInt8.toNat y0 : Nat) : Int), y1, y2, y3, y4⟩ : VCond), (enc_VCond_mk ((UInt8.toNat y0 : Nat) : Int) y1 y2 y3 y4).trans rfl⟩
    · rw [und_37] at hu; cases hu
    · rw [und_69] at hu; cases hu
    · refine st_of hu fld_74 (by simp [gd]) (by kernel_rfl) (by kernel_rfl) (fun pvs h0 => ?_)
      obtain ⟨_, pvs, rfl, ⟨y0, rfl⟩, h1⟩ := all2_cons h0
      rw [all2_nil h1]
      exact ⟨(⟨y0⟩ : Vcond_reader), rfl⟩
    · rw [und_87] at hu; cases hu
    · refine st_of hu fld_97 (by simp [gd]) (by kernel_rfl) (by kernel_rfl) (fun pvs h0 => ?_)
      obtain ⟨_, pvs, rfl, ⟨y0, rfl⟩, h1⟩ := all2_cons h0
      obtain ⟨_, pvs, rfl, ⟨y1, rfl⟩, h2⟩ := all2_cons h1
      obtain ⟨_, pvs, rfl, ⟨y2, rfl⟩, h3⟩ := all2_cons h2
      obtain ⟨_, pvs, rfl, ⟨y3, rfl⟩, h4⟩ := all2_cons h3
      obtain ⟨_, pvs, rfl, ⟨y4, rfl⟩, h5⟩ := all2_cons h4
      rw [all2_nil h5]
      exact ⟨(⟨((UInt8.toNat y0 : Nat) : Int), y1, y2, y3, y4⟩ : VToken), rfl⟩
    · refine st_of hu fld_99 (by simp [gd]) (by kernel_rfl) (by kernel_rfl) (fun pvs h0 => ?_)
      obtain ⟨_, pvs, rfl, ⟨y0, rfl⟩, h1⟩ := all2_cons h0
      obtain ⟨_, pvs, rfl, ⟨y1, rfl⟩, h2⟩ := all2_cons h1
      rw [all2_nil h2]
      exact ⟨(⟨y0, y1⟩ : VValue), (enc_VValue_mk y0 y1).trans rfl⟩
    · rw [und_107] at hu; cases hu
    · refine st_of hu fld_113 (by simp [gd]) (by kernel_rfl) (by kernel_rfl) (fun pvs h0 => ?_)
      obtain ⟨_, pvs, rfl, ⟨y0, rfl⟩, h1⟩ := all2_cons h0
      obtain ⟨_, pvs, rfl, ⟨y1, rfl⟩, h2⟩ := all2_cons h1
      obtain ⟨_, pvs, rfl, ⟨y2, rfl⟩, h3⟩ := all2_cons h2
      rw [all2_nil h3]
      exact ⟨(⟨y0, y1, y2⟩ : Vnest_found), rfl⟩
    · rw [und_135] at hu; cases hu
    · rw [und_202] at hu; cases hu
  only := fun t u hg hu => by
    simp only [gd, List.mem_cons, List.not_mem_nil, or_false] at hg
    rcases hg with rfl | rfl | rfl | rfl | rfl | rfl | rfl | rfl | rfl | rfl | rfl | rfl | rfl | rfl | rfl | rfl | rfl | rfl | rfl
    · rw [und_2] at hu; cases hu; exact .inl ⟨_, rfl⟩
    · rw [und_3] at hu; cases hu; exact .inl ⟨_, rfl⟩
    · rw [und_4] at hu; cases hu; exact .inr (.inl rfl)
    · rw [und_5] at hu; cases hu; exact .inl ⟨_, rfl⟩
    · rw [und_9] at hu; cases hu; exact .inr (.inr (.inl rfl))
    · rw [und_27] at hu; cases hu; exact .inr (.inr (.inr (.inl ⟨_, rfl⟩)))
    · obtain ⟨fs, e⟩ := und_29; rw [e] at hu; cases hu; exact .inr (.inr (.inr (.inr ⟨_, rfl⟩)))
    · rw [und_30] at hu; cases hu; exact .inr (.inr (.inr (.inl ⟨_, rfl⟩)))
    · obtain ⟨fs, e⟩ := und_32; rw [e] at hu; cases hu; exact .inr (.inr (.inr (.inr ⟨_, rfl⟩)))
    · rw [und_37] at hu; cases hu; exact .inl ⟨_, rfl⟩
    · rw [und_69] at hu; cases hu; exact .inr (.inr (.inr (.inl ⟨_, rfl⟩)))
    · obtain ⟨fs, e⟩ := und_74; rw [e] at hu; cases hu; exact .inr (.inr (.inr (.inr ⟨_, rfl⟩)))
    · rw [und_87] at hu; cases hu; exact .inr (.inr (.inr (.inl ⟨_, rfl⟩)))
    · obtain ⟨fs, e⟩ := und_97; rw [e] at hu; cases hu; exact .inr (.inr (.inr (.inr ⟨_, rfl⟩)))
    · obtain ⟨fs, e⟩ := und_99; rw [e] at hu; cases hu; exact .inr (.inr (.inr (.inr ⟨_, rfl⟩)))
    · rw [und_107] at hu; cases hu; exact .inr (.inr (.inr (.inl ⟨_, rfl⟩)))
    · obtain ⟨fs, e⟩ := und_113; rw [e] at hu; cases hu; exact .inr (.inr (.inr (.inr ⟨_, rfl⟩)))
    · rw [und_135] at hu; cases hu; exact .inr (.inr (.inr (.inl ⟨_, rfl⟩)))
    · rw [und_202] at hu; cases hu; exact .inr (.inr (.inr (.inl ⟨_, rfl⟩)))
end Go.Lv.VT
