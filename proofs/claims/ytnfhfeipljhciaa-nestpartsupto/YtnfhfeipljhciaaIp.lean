/- What stands for the values of types. -/
import Derived.Test.YtnfhfeipljhciaaProg
import Derived.Test.YtnfhfeipljhciaaLf
import Derived.Test.YtnfhfeipljhciaaTy
import Derived.KernelRfl
namespace Go.Lv.VT
open Go.Proofs
inductive TC where
  | bool | int_i64 | int_u8 | sl_22 | sl_48 | sl_50 | st_VToken | st_VValue | st_Vnest_found | str | other
def Ct : TC → Type
  | .bool => Bool | .int_i64 => Int | .int_u8 => Int | .sl_22 => List (List VValue) | .sl_48 => List VToken | .sl_50 => List VValue | .st_VToken => VToken | .st_VValue => VValue | .st_Vnest_found => Vnest_found | .str => Str | .other => Unit
def tab : List (Nat × TC) := [(2, .int_i64), (3, .int_i64), (4, .bool), (5, .int_u8), (9, .str), (22, .sl_50), (24, .int_i64), (33, .sl_22), (45, .st_Vnest_found), (48, .st_VToken), (50, .st_VValue), (54, .sl_48)]
def tc (t : Nat) : TC := match lk tab t with | some c => c | none => .other
def Cn (t : Nat) : Type := Ct (tc t)
def dC : (c : TC) → Ct c
  | .bool => (default : Bool) | .int_i64 => (default : Int) | .int_u8 => (default : Int) | .sl_22 => (default : List (List VValue)) | .sl_48 => (default : List VToken) | .sl_50 => (default : List VValue) | .st_VToken => (default : VToken) | .st_VValue => (default : VValue) | .st_Vnest_found => (default : Vnest_found) | .str => (default : Str) | .other => ()
def size : TC → Nat
  | .st_VToken => 5 | .st_VValue => 6 | .st_Vnest_found => 3 | _ => 1
def enc_VToken (x : VToken) : List PV := [.at (.int .u8 x.kind), .str x.text, .at (.int .i64 x.num), .str x.unit, .at (.bool x.flag)]
mutual
def enc_VValue : VValue → List PV
  | ⟨x_token, x_list⟩ => [.at (.int .u8 x_token.kind), .str x_token.text, .at (.int .i64 x_token.num), .str x_token.unit, .at (.bool x_token.flag), .sl (encL_VValue x_list)]
def encL_VValue : List VValue → List (List PV)
  | [] => []
  | v :: r => enc_VValue v :: encL_VValue r
end
theorem encL_VValue_eq : ∀ (l : List VValue), encL_VValue l = l.map enc_VValue
  | [] => by rw [encL_VValue]; rfl
  | v :: r => by rw [encL_VValue, encL_VValue_eq r]; rfl
def enc_Vnest_found (x : Vnest_found) : List PV := [.at (.int .i64 x.depth), .at (.int .i64 x.tokens), .at (.bool x.bad)]
theorem enc_VValue_mk (x_token : VToken) (x_list : List VValue) : enc_VValue ⟨x_token, x_list⟩ = [.at (.int .u8 x_token.kind), .str x_token.text, .at (.int .i64 x_token.num), .str x_token.unit, .at (.bool x_token.flag), .sl (x_list.map enc_VValue)] := by
  simp only [enc_VValue, encL_VValue_eq]
def fC (n : Nat) : (c : TC) → Ct c → List PV
  | .bool, (x : Bool) => [.at (.bool x)]
  | .int_i64, (x : Int) => [.at (.int .i64 x)]
  | .int_u8, (x : Int) => [.at (.int .u8 x)]
  | .sl_22, (x : List (List VValue)) => [.sl (x.map (fun y => [.sl (y.map enc_VValue)]))]
  | .sl_48, (x : List VToken) => [.sl (x.map enc_VToken)]
  | .sl_50, (x : List VValue) => [.sl (x.map enc_VValue)]
  | .st_VToken, (x : VToken) => enc_VToken x
  | .st_VValue, (x : VValue) => enc_VValue x
  | .st_Vnest_found, (x : Vnest_found) => enc_Vnest_found x
  | .str, (x : Str) => [.str x]
  | .other, _ => List.replicate n (.at (.slice none 0 0))
def eC (n : Nat) : (c : TC) → Ct c → List (EV Cn)
  | .bool, (x : Bool) => [.bool x]
  | .int_i64, (x : Int) => [.int .i64 x]
  | .int_u8, (x : Int) => [.int .u8 x]
  | .sl_22, (x : List (List VValue)) => [.sl 22 x]
  | .sl_48, (x : List VToken) => [.sl 48 x]
  | .sl_50, (x : List VValue) => [.sl 50 x]
  | .st_VToken, (x : VToken) => [.int .u8 x.kind, .str x.text, .int .i64 x.num, .str x.unit, .bool x.flag]
  | .st_VValue, (x : VValue) => [.int .u8 x.token.kind, .str x.token.text, .int .i64 x.token.num, .str x.token.unit, .bool x.token.flag, .sl 50 x.list]
  | .st_Vnest_found, (x : Vnest_found) => [.int .i64 x.depth, .int .i64 x.tokens, .bool x.bad]
  | .str, (x : Str) => [.str x]
  | .other, _ => List.replicate n .nil
def dInt_i16 : EV Cn → Option Int
  | .int .i16 n => some n
  | _ => none
def dInt_i32 : EV Cn → Option Int
  | .int .i32 n => some n
  | _ => none
def dInt_i64 : EV Cn → Option Int
  | .int .i64 n => some n
  | _ => none
def dInt_i8 : EV Cn → Option Int
  | .int .i8 n => some n
  | _ => none
def dInt_u16 : EV Cn → Option Int
  | .int .u16 n => some n
  | _ => none
def dInt_u32 : EV Cn → Option Int
  | .int .u32 n => some n
  | _ => none
def dInt_u64 : EV Cn → Option Int
  | .int .u64 n => some n
  | _ => none
def dInt_u8 : EV Cn → Option Int
  | .int .u8 n => some n
  | _ => none
def dBool : EV Cn → Option Bool
  | .bool b => some b
  | _ => none
def dStr : EV Cn → Option Str
  | .str l => some l
  | _ => none
def dSl_22 : EV Cn → Option (List (List VValue))
  | .nil => some []
  | .sl 22 l => some l
  | _ => none
def dSl_48 : EV Cn → Option (List VToken)
  | .nil => some []
  | .sl 48 l => some l
  | _ => none
def dSl_50 : EV Cn → Option (List VValue)
  | .nil => some []
  | .sl 50 l => some l
  | _ => none
def mC : (c : TC) → List (EV Cn) → Option (Ct c)
  | .bool => fun cs => match cs with | [a0] => (dBool a0).bind fun x0 => some x0 | _ => none
  | .int_i64 => fun cs => match cs with | [a0] => (dInt_i64 a0).bind fun x0 => some x0 | _ => none
  | .int_u8 => fun cs => match cs with | [a0] => (dInt_u8 a0).bind fun x0 => some x0 | _ => none
  | .sl_22 => fun cs => match cs with | [a0] => (dSl_22 a0).bind fun x0 => some x0 | _ => none
  | .sl_48 => fun cs => match cs with | [a0] => (dSl_48 a0).bind fun x0 => some x0 | _ => none
  | .sl_50 => fun cs => match cs with | [a0] => (dSl_50 a0).bind fun x0 => some x0 | _ => none
  | .st_VToken => fun cs => match cs with | [a0, a1, a2, a3, a4] => (dInt_u8 a0).bind fun x0 => (dStr a1).bind fun x1 => (dInt_i64 a2).bind fun x2 => (dStr a3).bind fun x3 => (dBool a4).bind fun x4 => some (⟨x0, x1, x2, x3, x4⟩ : VToken) | _ => none
  | .st_VValue => fun cs => match cs with | [a0, a1, a2, a3, a4, a5] => (dInt_u8 a0).bind fun x0 => (dStr a1).bind fun x1 => (dInt_i64 a2).bind fun x2 => (dStr a3).bind fun x3 => (dBool a4).bind fun x4 => (dSl_50 a5).bind fun x5 => some (⟨(⟨x0, x1, x2, x3, x4⟩ : VToken), x5⟩ : VValue) | _ => none
  | .st_Vnest_found => fun cs => match cs with | [a0, a1, a2] => (dInt_i64 a0).bind fun x0 => (dInt_i64 a1).bind fun x1 => (dBool a2).bind fun x2 => some (⟨x0, x1, x2⟩ : Vnest_found) | _ => none
  | .str => fun cs => match cs with | [a0] => (dStr a0).bind fun x0 => some x0 | _ => none
  | .other => fun _ => none
noncomputable def I : Ip := ⟨Cn, fun t => dC (tc t), fun t => eC (Try.prog.cellsOf t) (tc t), fun t => mC (tc t), fun t => fC (Try.prog.cellsOf t) (tc t), fun _ => none⟩
theorem tab_ok : (tab.all fun p => Nat.beq (Try.prog.cellsOf p.1) (size p.2)) = true := by kernel_rfl
theorem cells_tc (t : Nat) (h : tc t ≠ .other) : Try.prog.cellsOf t = size (tc t) := by
  unfold tc at h ⊢
  cases hl : lk tab t with
  | none => rw [hl] at h; exact absurd rfl h
  | some c =>
    simp only
    exact Nat.eq_of_beq_eq_true (List.all_eq_true.1 tab_ok _ (lk_mem hl))
def Dec (a : EV Cn) (p : PV) : Prop := pureV (I := I) a = true ∧ WkP (pvE I a) p
theorem decs {cs : List (EV Cn)} {ps : List PV} (h : All2 Dec cs ps) : (∀ v ∈ cs, pureV (I := I) v = true) ∧ cs.length = ps.length ∧ ∀ (j : Nat) (a b : PV), (cs.map (pvE I))[j]? = some a → ps[j]? = some b → WkP a b := by
  induction h with
  | nil => exact ⟨fun v hv => (by cases hv), rfl, fun j a b ha => (by cases ha)⟩
  | cons h1 _ ih =>
    refine ⟨fun v hv => ?_, congrArg Nat.succ ih.2.1, fun j a b ha hb => ?_⟩
    · rcases List.mem_cons.1 hv with rfl | hv
      · exact h1.1
      · exact ih.1 v hv
    · cases j with
      | zero => injection ha with ha; injection hb with hb; rw [← ha, ← hb]; exact h1.2
      | succ j => exact ih.2.2 j a b ha hb
theorem dInt_i16_ok {a : EV Cn} {x : Int} (h : dInt_i16 a = some x) : Dec a (.at (.int .i16 x)) := by
  unfold dInt_i16 at h
  split at h
  · cases h; exact ⟨rfl, .refl _⟩
  · cases h
theorem dInt_i32_ok {a : EV Cn} {x : Int} (h : dInt_i32 a = some x) : Dec a (.at (.int .i32 x)) := by
  unfold dInt_i32 at h
  split at h
  · cases h; exact ⟨rfl, .refl _⟩
  · cases h
theorem dInt_i64_ok {a : EV Cn} {x : Int} (h : dInt_i64 a = some x) : Dec a (.at (.int .i64 x)) := by
  unfold dInt_i64 at h
  split at h
  · cases h; exact ⟨rfl, .refl _⟩
  · cases h
theorem dInt_i8_ok {a : EV Cn} {x : Int} (h : dInt_i8 a = some x) : Dec a (.at (.int .i8 x)) := by
  unfold dInt_i8 at h
  split at h
  · cases h; exact ⟨rfl, .refl _⟩
  · cases h
theorem dInt_u16_ok {a : EV Cn} {x : Int} (h : dInt_u16 a = some x) : Dec a (.at (.int .u16 x)) := by
  unfold dInt_u16 at h
  split at h
  · cases h; exact ⟨rfl, .refl _⟩
  · cases h
theorem dInt_u32_ok {a : EV Cn} {x : Int} (h : dInt_u32 a = some x) : Dec a (.at (.int .u32 x)) := by
  unfold dInt_u32 at h
  split at h
  · cases h; exact ⟨rfl, .refl _⟩
  · cases h
theorem dInt_u64_ok {a : EV Cn} {x : Int} (h : dInt_u64 a = some x) : Dec a (.at (.int .u64 x)) := by
  unfold dInt_u64 at h
  split at h
  · cases h; exact ⟨rfl, .refl _⟩
  · cases h
theorem dInt_u8_ok {a : EV Cn} {x : Int} (h : dInt_u8 a = some x) : Dec a (.at (.int .u8 x)) := by
  unfold dInt_u8 at h
  split at h
  · cases h; exact ⟨rfl, .refl _⟩
  · cases h
theorem dBool_ok {a : EV Cn} {x : Bool} (h : dBool a = some x) : Dec a (.at (.bool x)) := by
  unfold dBool at h
  split at h
  · cases h; exact ⟨rfl, .refl _⟩
  · cases h
theorem dStr_ok {a : EV Cn} {x : Str} (h : dStr a = some x) : Dec a (.str x) := by
  unfold dStr at h
  split at h
  · cases h; exact ⟨rfl, .refl _⟩
  · cases h
theorem dSl_22_ok {a : EV Cn} {x : List (List VValue)} (h : dSl_22 a = some x) : Dec a (.sl (x.map (I.full 22))) := by
  unfold dSl_22 at h
  split at h
  · cases h; exact ⟨rfl, .nil⟩
  · cases h; exact ⟨rfl, .refl _⟩
  · cases h
theorem dSl_48_ok {a : EV Cn} {x : List VToken} (h : dSl_48 a = some x) : Dec a (.sl (x.map (I.full 48))) := by
  unfold dSl_48 at h
  split at h
  · cases h; exact ⟨rfl, .nil⟩
  · cases h; exact ⟨rfl, .refl _⟩
  · cases h
theorem dSl_50_ok {a : EV Cn} {x : List VValue} (h : dSl_50 a = some x) : Dec a (.sl (x.map (I.full 50))) := by
  unfold dSl_50 at h
  split at h
  · cases h; exact ⟨rfl, .nil⟩
  · cases h; exact ⟨rfl, .refl _⟩
  · cases h
theorem made_ok (n : Nat) : ∀ (c : TC) (cs : List (EV Cn)) (x : Ct c), mC c cs = some x → All2 Dec cs (fC n c x)
  | .bool, cs, x, h => by
    simp only [mC] at h
    split at h
    · obtain ⟨x0, h0, h⟩ := Option.bind_eq_some_iff.1 h
      injection h with h
      subst h
      exact .cons (dBool_ok h0) .nil
    · cases h
  | .int_i64, cs, x, h => by
    simp only [mC] at h
    split at h
    · obtain ⟨x0, h0, h⟩ := Option.bind_eq_some_iff.1 h
      injection h with h
      subst h
      exact .cons (dInt_i64_ok h0) .nil
    · cases h
  | .int_u8, cs, x, h => by
    simp only [mC] at h
    split at h
    · obtain ⟨x0, h0, h⟩ := Option.bind_eq_some_iff.1 h
      injection h with h
      subst h
      exact .cons (dInt_u8_ok h0) .nil
    · cases h
  | .sl_22, cs, x, h => by
    simp only [mC] at h
    split at h
    · obtain ⟨x0, h0, h⟩ := Option.bind_eq_some_iff.1 h
      injection h with h
      subst h
      exact .cons (dSl_22_ok h0) .nil
    · cases h
  | .sl_48, cs, x, h => by
    simp only [mC] at h
    split at h
    · obtain ⟨x0, h0, h⟩ := Option.bind_eq_some_iff.1 h
      injection h with h
      subst h
      exact .cons (dSl_48_ok h0) .nil
    · cases h
  | .sl_50, cs, x, h => by
    simp only [mC] at h
    split at h
    · obtain ⟨x0, h0, h⟩ := Option.bind_eq_some_iff.1 h
      injection h with h
      subst h
      exact .cons (dSl_50_ok h0) .nil
    · cases h
  | .st_VToken, cs, x, h => by
    simp only [mC] at h
    split at h
    · obtain ⟨x0, h0, h⟩ := Option.bind_eq_some_iff.1 h
      obtain ⟨x1, h1, h⟩ := Option.bind_eq_some_iff.1 h
      obtain ⟨x2, h2, h⟩ := Option.bind_eq_some_iff.1 h
      obtain ⟨x3, h3, h⟩ := Option.bind_eq_some_iff.1 h
      obtain ⟨x4, h4, h⟩ := Option.bind_eq_some_iff.1 h
      injection h with h
      subst h
      exact .cons (dInt_u8_ok h0) (.cons (dStr_ok h1) (.cons (dInt_i64_ok h2) (.cons (dStr_ok h3) (.cons (dBool_ok h4) .nil))))
    · cases h
  | .st_VValue, cs, x, h => by
    simp only [mC] at h
    split at h
    · obtain ⟨x0, h0, h⟩ := Option.bind_eq_some_iff.1 h
      obtain ⟨x1, h1, h⟩ := Option.bind_eq_some_iff.1 h
      obtain ⟨x2, h2, h⟩ := Option.bind_eq_some_iff.1 h
      obtain ⟨x3, h3, h⟩ := Option.bind_eq_some_iff.1 h
      obtain ⟨x4, h4, h⟩ := Option.bind_eq_some_iff.1 h
      obtain ⟨x5, h5, h⟩ := Option.bind_eq_some_iff.1 h
      injection h with h
      subst h
      show All2 Dec _ (enc_VValue _)
      simp only [enc_VValue, encL_VValue_eq]
      exact .cons (dInt_u8_ok h0) (.cons (dStr_ok h1) (.cons (dInt_i64_ok h2) (.cons (dStr_ok h3) (.cons (dBool_ok h4) (.cons (dSl_50_ok h5) .nil)))))
    · cases h
  | .st_Vnest_found, cs, x, h => by
    simp only [mC] at h
    split at h
    · obtain ⟨x0, h0, h⟩ := Option.bind_eq_some_iff.1 h
      obtain ⟨x1, h1, h⟩ := Option.bind_eq_some_iff.1 h
      obtain ⟨x2, h2, h⟩ := Option.bind_eq_some_iff.1 h
      injection h with h
      subst h
      exact .cons (dInt_i64_ok h0) (.cons (dInt_i64_ok h1) (.cons (dBool_ok h2) .nil))
    · cases h
  | .str, cs, x, h => by
    simp only [mC] at h
    split at h
    · obtain ⟨x0, h0, h⟩ := Option.bind_eq_some_iff.1 h
      injection h with h
      subst h
      exact .cons (dStr_ok h0) .nil
    · cases h
  | .other, cs, x, h => by cases h
theorem fe (n : Nat) : ∀ (c : TC) (x : Ct c), fC n c x = (eC n c x).map (pvE I)
  | .bool, x => rfl
  | .int_i64, x => rfl
  | .int_u8, x => rfl
  | .sl_22, x => rfl
  | .sl_48, x => rfl
  | .sl_50, x => rfl
  | .st_VToken, x => rfl
  | .st_VValue, (x : VValue) => by
    obtain ⟨x_token, x_list⟩ := x
    show enc_VValue _ = _
    simp only [enc_VValue, encL_VValue_eq]
    rfl
  | .st_Vnest_found, x => rfl
  | .str, x => rfl
  | .other, x => by
    show List.replicate n (PV.at (Value.slice none 0 0)) = (List.replicate n EV.nil).map (pvE I)
    rw [List.map_replicate]
    rfl
theorem eC_len (n : Nat) (c : TC) (x : Ct c) (h : c ≠ .other → n = size c) : (eC n c x).length = n := by
  cases c
  case other => simp [eC]
  all_goals (rw [h (by simp)]; rfl)
theorem eC_pure (n : Nat) : ∀ (c : TC) (x : Ct c), (eC n c x).all (pureV (I := I)) = true
  | .bool, x => rfl
  | .int_i64, x => rfl
  | .int_u8, x => rfl
  | .sl_22, x => rfl
  | .sl_48, x => rfl
  | .sl_50, x => rfl
  | .st_VToken, x => rfl
  | .st_VValue, x => rfl
  | .st_Vnest_found, x => rfl
  | .str, x => rfl
  | .other, x => by
    show (List.replicate n EV.nil).all (pureV (I := I)) = true
    rw [List.all_eq_true]
    intro v hv
    rw [(List.mem_replicate.1 hv).2]
    rfl
theorem ipOK : IpOK Try.prog I where
  len := fun t x => by
    show (fC _ _ x).length = _
    exact (congrArg List.length (fe _ (tc t) x)).trans ((List.length_map ..).trans (eC_len _ (tc t) x (cells_tc t)))
  exp := fun t x => fe _ _ x
  pur := fun t x v hv => List.all_eq_true.1 (eC_pure _ _ x) v hv
  made := fun t cs x h => decs (made_ok _ _ cs x h)
  byt := fun t p h => by cases h
noncomputable def T : TT := [(2, ti Try.prog 2), (3, ti Try.prog 3), (4, ti Try.prog 4), (5, ti Try.prog 5), (9, ti Try.prog 9), (22, ti Try.prog 22), (24, ti Try.prog 24), (33, ti Try.prog 33), (45, ti Try.prog 45), (48, ti Try.prog 48), (50, ti Try.prog 50), (54, ti Try.prog 54)]
def FK : List (Nat × List Kd) := [(48, [.int .u8, .str, .int .i64, .str, .bool])]
theorem tok : TOK Try.prog T FK := tok_of (l := [2, 3, 4, 5, 9, 22, 24, 33, 45, 48, 50, 54]) (by
  intro p hp
  simp only [FK, List.mem_cons, List.not_mem_nil, or_false] at hp
  rcases hp with rfl <;> kernel_rfl)
theorem mixed : Try.prog.follows .mixedOrders = true := by kernel_rfl
noncomputable def body (f : Go.Func) : Code := match f.body with | some c => c | none => .skip
noncomputable def rsl (f : Go.Func) : List ResultVar := f.results.toList
end Go.Lv.VT

namespace Go.Lv.VT
open Go.Proofs
def gd : List Nat := [2, 3, 4, 5, 9, 22, 24, 33, 45, 48, 50, 54]
theorem und_2 : Try.prog.underlying 2 = some (.int .i64) := by kernel_rfl
theorem und_3 : Try.prog.underlying 3 = some (.int .i64) := by kernel_rfl
theorem und_4 : Try.prog.underlying 4 = some (.bool) := by kernel_rfl
theorem und_5 : Try.prog.underlying 5 = some (.int .u8) := by kernel_rfl
theorem und_9 : Try.prog.underlying 9 = some (.string) := by kernel_rfl
theorem und_22 : Try.prog.underlying 22 = some (.slice 50) := by kernel_rfl
theorem und_24 : Try.prog.underlying 24 = some (.int .i64) := by kernel_rfl
theorem und_33 : Try.prog.underlying 33 = some (.slice 22) := by kernel_rfl
theorem und_45 : ∃ fs, Try.prog.underlying 45 = some (.struct fs) := ⟨(match Try.prog.underlying 45 with | some (.struct fs) => fs | _ => #[]), by kernel_rfl⟩
theorem fld_45 : fldsOf Try.prog 45 = [(3, 0), (3, 1), (4, 2)] := by kernel_rfl
theorem und_48 : ∃ fs, Try.prog.underlying 48 = some (.struct fs) := ⟨(match Try.prog.underlying 48 with | some (.struct fs) => fs | _ => #[]), by kernel_rfl⟩
theorem fld_48 : fldsOf Try.prog 48 = [(5, 0), (9, 1), (2, 2), (9, 3), (4, 4)] := by kernel_rfl
theorem und_50 : ∃ fs, Try.prog.underlying 50 = some (.struct fs) := ⟨(match Try.prog.underlying 50 with | some (.struct fs) => fs | _ => #[]), by kernel_rfl⟩
theorem fld_50 : fldsOf Try.prog 50 = [(48, 0), (22, 5)] := by kernel_rfl
theorem und_54 : Try.prog.underlying 54 = some (.slice 48) := by kernel_rfl
theorem ipRd : IpRd Try.prog I (fun t => t ∈ gd) where
  int := fun t k hg hu n => by
    simp only [gd, List.mem_cons, List.not_mem_nil, or_false] at hg
    rcases hg with rfl | rfl | rfl | rfl | rfl | rfl | rfl | rfl | rfl | rfl | rfl | rfl
    · rw [und_2] at hu; cases hu; exact ⟨(n : Int), rfl⟩
    · rw [und_3] at hu; cases hu; exact ⟨(n : Int), rfl⟩
    · rw [und_4] at hu; cases hu
    · rw [und_5] at hu; cases hu; exact ⟨(n : Int), rfl⟩
    · rw [und_9] at hu; cases hu
    · rw [und_22] at hu; cases hu
    · rw [und_24] at hu; cases hu; exact ⟨(n : Int), rfl⟩
    · rw [und_33] at hu; cases hu
    · obtain ⟨fs, e⟩ := und_45; rw [e] at hu; cases hu
    · obtain ⟨fs, e⟩ := und_48; rw [e] at hu; cases hu
    · obtain ⟨fs, e⟩ := und_50; rw [e] at hu; cases hu
    · rw [und_54] at hu; cases hu
  bool := fun t hg hu b => by
    simp only [gd, List.mem_cons, List.not_mem_nil, or_false] at hg
    rcases hg with rfl | rfl | rfl | rfl | rfl | rfl | rfl | rfl | rfl | rfl | rfl | rfl
    · rw [und_2] at hu; cases hu
    · rw [und_3] at hu; cases hu
    · exact ⟨(b : Bool), rfl⟩
    · rw [und_5] at hu; cases hu
    · rw [und_9] at hu; cases hu
    · rw [und_22] at hu; cases hu
    · rw [und_24] at hu; cases hu
    · rw [und_33] at hu; cases hu
    · obtain ⟨fs, e⟩ := und_45; rw [e] at hu; cases hu
    · obtain ⟨fs, e⟩ := und_48; rw [e] at hu; cases hu
    · obtain ⟨fs, e⟩ := und_50; rw [e] at hu; cases hu
    · rw [und_54] at hu; cases hu
  str := fun t hg hu l => by
    simp only [gd, List.mem_cons, List.not_mem_nil, or_false] at hg
    rcases hg with rfl | rfl | rfl | rfl | rfl | rfl | rfl | rfl | rfl | rfl | rfl | rfl
    · rw [und_2] at hu; cases hu
    · rw [und_3] at hu; cases hu
    · rw [und_4] at hu; cases hu
    · rw [und_5] at hu; cases hu
    · exact ⟨(l : Str), rfl⟩
    · rw [und_22] at hu; cases hu
    · rw [und_24] at hu; cases hu
    · rw [und_33] at hu; cases hu
    · obtain ⟨fs, e⟩ := und_45; rw [e] at hu; cases hu
    · obtain ⟨fs, e⟩ := und_48; rw [e] at hu; cases hu
    · obtain ⟨fs, e⟩ := und_50; rw [e] at hu; cases hu
    · rw [und_54] at hu; cases hu
  sl := fun t e hg hu => by
    simp only [gd, List.mem_cons, List.not_mem_nil, or_false] at hg
    rcases hg with rfl | rfl | rfl | rfl | rfl | rfl | rfl | rfl | rfl | rfl | rfl | rfl
    · rw [und_2] at hu; cases hu
    · rw [und_3] at hu; cases hu
    · rw [und_4] at hu; cases hu
    · rw [und_5] at hu; cases hu
    · rw [und_9] at hu; cases hu
    · rw [und_22] at hu; cases hu; exact ⟨by simp [gd], Nat.lt_of_lt_of_eq (by decide : 0 < 6) (by kernel_rfl : 6 = Try.prog.cellsOf 50), fun l => ⟨(l : List VValue), rfl⟩⟩
    · rw [und_24] at hu; cases hu
    · rw [und_33] at hu; cases hu; exact ⟨by simp [gd], Nat.lt_of_lt_of_eq (by decide : 0 < 1) (by kernel_rfl : 1 = Try.prog.cellsOf 22), fun l => ⟨(l : List (List VValue)), rfl⟩⟩
    · obtain ⟨fs, e⟩ := und_45; rw [e] at hu; cases hu
    · obtain ⟨fs, e⟩ := und_48; rw [e] at hu; cases hu
    · obtain ⟨fs, e⟩ := und_50; rw [e] at hu; cases hu
    · rw [und_54] at hu; cases hu; exact ⟨by simp [gd], Nat.lt_of_lt_of_eq (by decide : 0 < 5) (by kernel_rfl : 5 = Try.prog.cellsOf 48), fun l => ⟨(l : List VToken), rfl⟩⟩
  st := fun t fs hg hu => by
    simp only [gd, List.mem_cons, List.not_mem_nil, or_false] at hg
    rcases hg with rfl | rfl | rfl | rfl | rfl | rfl | rfl | rfl | rfl | rfl | rfl | rfl
    · rw [und_2] at hu; cases hu
    · rw [und_3] at hu; cases hu
    · rw [und_4] at hu; cases hu
    · rw [und_5] at hu; cases hu
    · rw [und_9] at hu; cases hu
    · rw [und_22] at hu; cases hu
    · rw [und_24] at hu; cases hu
    · rw [und_33] at hu; cases hu
    · refine st_of hu fld_45 (by simp [gd]) (by kernel_rfl) (by kernel_rfl) (fun pvs h0 => ?_)
      obtain ⟨_, pvs, rfl, ⟨y0, rfl⟩, h1⟩ := all2_cons h0
      obtain ⟨_, pvs, rfl, ⟨y1, rfl⟩, h2⟩ := all2_cons h1
      obtain ⟨_, pvs, rfl, ⟨y2, rfl⟩, h3⟩ := all2_cons h2
      rw [all2_nil h3]
      exact ⟨(⟨y0, y1, y2⟩ : Vnest_found), rfl⟩
    · refine st_of hu fld_48 (by simp [gd]) (by kernel_rfl) (by kernel_rfl) (fun pvs h0 => ?_)
      obtain ⟨_, pvs, rfl, ⟨y0, rfl⟩, h1⟩ := all2_cons h0
      obtain ⟨_, pvs, rfl, ⟨y1, rfl⟩, h2⟩ := all2_cons h1
      obtain ⟨_, pvs, rfl, ⟨y2, rfl⟩, h3⟩ := all2_cons h2
      obtain ⟨_, pvs, rfl, ⟨y3, rfl⟩, h4⟩ := all2_cons h3
      obtain ⟨_, pvs, rfl, ⟨y4, rfl⟩, h5⟩ := all2_cons h4
      rw [all2_nil h5]
      exact ⟨(⟨y0, y1, y2, y3, y4⟩ : VToken), rfl⟩
    · refine st_of hu fld_50 (by simp [gd]) (by kernel_rfl) (by kernel_rfl) (fun pvs h0 => ?_)
      obtain ⟨_, pvs, rfl, ⟨y0, rfl⟩, h1⟩ := all2_cons h0
      obtain ⟨_, pvs, rfl, ⟨y1, rfl⟩, h2⟩ := all2_cons h1
      rw [all2_nil h2]
      exact ⟨(⟨y0, y1⟩ : VValue), (enc_VValue_mk y0 y1).trans rfl⟩
    · rw [und_54] at hu; cases hu
  only := fun t u hg hu => by
    simp only [gd, List.mem_cons, List.not_mem_nil, or_false] at hg
    rcases hg with rfl | rfl | rfl | rfl | rfl | rfl | rfl | rfl | rfl | rfl | rfl | rfl
    · rw [und_2] at hu; cases hu; exact .inl ⟨_, rfl⟩
    · rw [und_3] at hu; cases hu; exact .inl ⟨_, rfl⟩
    · rw [und_4] at hu; cases hu; exact .inr (.inl rfl)
    · rw [und_5] at hu; cases hu; exact .inl ⟨_, rfl⟩
    · rw [und_9] at hu; cases hu; exact .inr (.inr (.inl rfl))
    · rw [und_22] at hu; cases hu; exact .inr (.inr (.inr (.inl ⟨_, rfl⟩)))
    · rw [und_24] at hu; cases hu; exact .inl ⟨_, rfl⟩
    · rw [und_33] at hu; cases hu; exact .inr (.inr (.inr (.inl ⟨_, rfl⟩)))
    · obtain ⟨fs, e⟩ := und_45; rw [e] at hu; cases hu; exact .inr (.inr (.inr (.inr ⟨_, rfl⟩)))
    · obtain ⟨fs, e⟩ := und_48; rw [e] at hu; cases hu; exact .inr (.inr (.inr (.inr ⟨_, rfl⟩)))
    · obtain ⟨fs, e⟩ := und_50; rw [e] at hu; cases hu; exact .inr (.inr (.inr (.inr ⟨_, rfl⟩)))
    · rw [und_54] at hu; cases hu; exact .inr (.inr (.inr (.inl ⟨_, rfl⟩)))
end Go.Lv.VT
