/- Declarations: the program's check, and the reference's. -/
import Derived.Test.YtnfhfeipljhciaaGreatLaw
import Derived.Test.YtnfhfeipljhciaaGreatMo
namespace Go.Lv.VT
theorem eta_Value (v : VValue) : (⟨v.token, v.list⟩ : VValue) = v := by cases v; rfl
def nameD (x : Str) : Bool := !(x == []) && (decide (x.length ≤ 64) && (noNul x && (bif List.isPrefixOf [45, 45] x then !(x == [45, 45]) else lowS x == x)))
theorem decl_named_eq {x : Str} (h : x.length ≤ big) : decl_named x = some (nameD x) := by
  have e : decide ((x.length : Int) > 64) = !decide (x.length ≤ 64) := gt_not _ 64
  have e1 : decide (Lib.indexByte x (0 : Int).toNat.toUInt8 ≥ 0) = !noNul x := idx_nul x
  have ec := beq_comm' x (lowS x)
  unfold decl_named nameD
  simp only [indexByte_eq, condO_some, bindO, Option.bind_some, hasPrefix_eq, prog_Lower h, e, ec]
  cases x == [] <;> cases decide (x.length ≤ 64) <;> try rfl
  simp only [cond_true, cond_false, Bool.not_true, Bool.not_false, Bool.true_and, Bool.or_false, e1]
  cases noNul x <;> cases List.isPrefixOf [45, 45] x <;> rfl
theorem pre_take (x : Str) : (bif decide ((x.length : Int) ≥ 2) then List.take 2 x == [45, 45] else false) = List.isPrefixOf [45, 45] x := by
  cases x with
  | nil => rfl
  | cons a x =>
    cases x with
    | nil => show (bif decide _ then _ else _) = ((45 == a) && false); rw [Bool.and_false]; rfl
    | cons b x =>
      have : decide ((((a :: b :: x : Str)).length : Int) ≥ 2) = true := decide_eq_true (by simp only [List.length_cons]; omega)
      rw [this]
      show ((a == 45) && ((b == 45) && true)) = ((45 == a) && ((45 == b) && true))
      rw [Bool.beq_comm (a := a), Bool.beq_comm (a := b)]
theorem pre_len {x : Str} (h : List.isPrefixOf [45, 45] x = true) : decide ((x.length : Int) > 2) = !(x == [45, 45]) := by
  obtain ⟨t, rfl⟩ := List.isPrefixOf_iff_prefix.1 h
  cases t with
  | nil => rfl
  | cons a t =>
    have : decide ((([45, 45] ++ a :: t : Str).length : Int) > 2) = true := decide_eq_true (by simp only [List.length_append, List.length_cons]; omega)
    rw [this]; rfl
theorem ref05_Named_eq {x : Str} (h : x.length ≤ big) : ref05_Named x = some (nameD x) := by
  have e : decide ((x.length : Int) > 64) = !decide (x.length ≤ 64) := gt_not _ 64
  have en : decide ((x.length : Int) < 1) = (x == []) := by cases x with
    | nil => rfl
    | cons a x => exact decide_eq_false (by simp only [List.length_cons]; omega)
  have ec := beq_comm' x (lowS x)
  have hk : (need (decide ((2 : Int) ≤ (x.length : Int)) || !(decide ((x.length : Int) ≥ 2))) <|
      bif bif decide ((x.length : Int) ≥ 2) then List.take 2 x == [45, 45] else false then some (decide ((x.length : Int) > 2)) else bindO (ref01_Lower x) fun y4 => some (x == y4)) = some (bif List.isPrefixOf [45, 45] x then !(x == [45, 45]) else lowS x == x) := by
    have e2 : (decide ((2 : Int) ≤ (x.length : Int)) || !(decide ((x.length : Int) ≥ 2))) = true := by
      show (decide _ || !decide ((2 : Int) ≤ _)) = true
      cases decide ((2 : Int) ≤ (x.length : Int)) <;> rfl
    rw [e2, need_true, pre_take]
    cases hp : List.isPrefixOf [45, 45] x with
    | true => rw [cond_true, cond_true, pre_len hp]
    | false => simp only [cond_false, ref_Lower h, bindO, Option.bind_some, ec]
  unfold ref05_Named nameD
  rw [hk]
  have hl : ∀ b : Bool, loopK (fun (s1 : Int) => bif decide (s1 < (x.length : Int)) then
        bindO (geti x s1) fun y2 => bif (y2.toNat : Int) == 0 then some (LO.ret false) else some (LO.again (w64 (s1 + 1)))
      else some (LO.out ()) : Int → Option (LO (Int) (Unit) _)) 0 (fun _ => some b) = some (noNul x && b) := by
    intro b
    refine (loopK_find x (fun b => bif (!(b == 0)) then none else some false) () (fun i hi => ?_) ?_).trans ?_
    · simp only [lt_true hi, cond_true, geti_eq hi, bindO, Option.bind_some, byte_zero, w64_succ hi h]
      cases x[i] == 0 <;> rfl
    · simp only [lt_self, cond_false]
    · rw [find_all]
      unfold noNul
      cases x.all (fun b => !(b == 0)) <;> rfl
  rw [hl, e, en]
  cases x == [] <;> cases decide (x.length ≤ 64) <;> rfl

def clK (v : VValue) : Bool := v.token.kind == 20 || (v.token.kind == 22 || v.token.kind == 24)
mutual
def clV : VValue → Bool
  | ⟨t, l⟩ => clK ⟨t, l⟩ || clL l
def clL : List VValue → Bool
  | [] => false
  | v :: r => clV v || clL r
end
theorem clV_eq (v : VValue) : clV v = (clK v || clL v.list) := by obtain ⟨t, l⟩ := v; rw [clV]
theorem clL_any (l : List VValue) : clL l = l.any clV := by
  induction l with
  | nil => rw [clL]; rfl
  | cons v l ih => rw [clL, ih]; rfl
theorem decl_closers_eq {l : List VValue} (h : szL l ≤ big) : decl_closers l = some (clL l) := by
  refine recE_meas (fun l => szL l) (fun l => szL l ≤ big) (fun l => clL l) (fun S l hl hS => ?_) h
  have hlen := szL_len l
  unfold decl_closers_B slices_ContainsFunc_Value slices_IndexFunc_Value
  have := fold_any (loop_idx (step := fun (s1 : Int) =>
      bif decide (s1 < (l.length : Int)) then
        bindO (geti l s1) fun y2 =>
        bindO (decl_closers_1 S (⟨y2.token, y2.list⟩ : VValue)) fun y3 =>
        bif y3 then some (LO.ret s1) else some (LO.again (w64 (s1 + 1)))
      else some (LO.out ())) l clV (by omega) (fun i hi => ?_) ?_) (idxS_any _ _)
  · rw [this, clL_any]; rfl
  · have hsz := szL_mem (List.getElem_mem hi)
    have hv2 := szV_eq l[i]
    have hs := hS l[i].list (by omega) (by omega)
    have : decl_closers_1 S l[i] = some (clV l[i]) := by
      unfold decl_closers_1 decl_is
      simp only [eta_Value, condO_some, bindO, Option.bind_some, hs, clV_eq, clK]
      cases l[i].token.kind == 20 <;> cases l[i].token.kind == 22 <;> cases l[i].token.kind == 24 <;> rfl
    simp only [lt_true hi, cond_true, geti_eq hi, bindO, Option.bind_some, eta_Value, this]
  · simp only [lt_self, cond_false]
theorem ref05_closers_eq {l : List VValue} (h : szL l ≤ big) : ref05_closers l = some (clL l) := by
  refine recE_meas (fun l => szL l) (fun l => szL l ≤ big) (fun l => clL l) (fun S l hl hS => ?_) h
  have hlen := szL_len l
  unfold ref05_closers_B
  refine (loopK_find l (fun v => bif clV v then some true else none) () (fun i hi => ?_) ?_).trans ?_
  · have hsz := szL_mem (List.getElem_mem hi)
    have hv2 := szV_eq l[i]
    have hs := hS l[i].list (by omega) (by omega)
    simp only [lt_true hi, cond_true, geti_eq hi, bindO, Option.bind_some, clV_eq, clK, w64_succ hi (show l.length ≤ big by omega)]
    cases h1 : l[i].token.kind == 20 <;> cases h2 : l[i].token.kind == 22 <;> cases h3 : l[i].token.kind == 24 <;>
      first | rfl | (simp only [cond_false, Bool.not_false, condO_true, Option.bind_some, hs, Bool.false_or]; cases clL l[i].list <;> rfl)
  · simp only [lt_self, cond_false]
  · rw [find_any, clL_any]
    cases l.any clV <;> rfl

def endsS (l : List VValue) : Bool := match l with
  | [] => false
  | v :: r => isSp v || isSp ((v :: r).getLast (by simp))
theorem endsS_snoc (t : List VValue) (v : VValue) : endsS (t ++ [v]) = ((match t with | [] => isSp v | a :: _ => isSp a) || isSp v) := by
  cases t with
  | nil => rfl
  | cons a t =>
    show (isSp a || isSp ((a :: (t ++ [v])).getLast _)) = _
    congr 2
    have : (a :: (t ++ [v])) = (a :: t) ++ [v] := rfl
    simp only [this, List.getLast_append_of_ne_nil, List.getLast_singleton, ne_eq, reduceCtorEq, not_false_eq_true]
theorem trimB_len (l : List VValue) : (trimB l).length ≤ l.length := (trimB_sub l).length_le
theorem trimS_ends (l : List VValue) : ((trimS l).length == l.length) = !endsS l := by
  rcases nil_or_snoc l with rfl | ⟨t, v, rfl⟩
  · rfl
  · rw [endsS_snoc]
    have hl : (t ++ [v]).length = t.length + 1 := by simp
    cases t with
    | nil =>
      show ((trimB (List.dropWhile isSp [v])).length == 1) = !(isSp v || isSp v)
      cases hv : isSp v with
      | true => simp only [List.dropWhile_cons, hv]; rfl
      | false =>
        simp only [List.dropWhile_cons, hv]
        have := trimB_snoc [] v
        rw [hv] at this
        show ((trimB [v]).length == 1) = true
        rw [show trimB [v] = [v] from this]; rfl
    | cons a t =>
      show ((trimB (List.dropWhile isSp (a :: (t ++ [v])))).length == _) = !(isSp a || isSp v)
      have hb := trimB_len (List.dropWhile isSp (a :: (t ++ [v])))
      cases ha : isSp a with
      | true =>
        simp only [List.dropWhile_cons, ha, if_true] at hb ⊢
        have hd := (List.dropWhile_sublist isSp (l := t ++ [v])).length_le
        rw [Bool.true_or, Bool.not_true, beq_eq_false_iff_ne]
        rw [hl, List.length_cons]
        rw [List.length_append, List.length_singleton] at hd
        omega
      | false =>
        have e : List.dropWhile isSp (a :: (t ++ [v])) = (a :: t) ++ [v] := by
          rw [List.dropWhile_cons, ha]; rfl
        rw [e, trimB_snoc]
        cases hv : isSp v with
        | true =>
          have := trimB_len (a :: t)
          rw [if_pos rfl, Bool.or_true, Bool.not_true, beq_eq_false_iff_ne, hl]
          omega
        | false => simp
theorem ends_prog {l : List VValue} (h : l.length ≤ big) (g : Bool) (hg : (l.isEmpty && g) = false) (k : Bool → Option Int) :
    (bindO (condO (decide ((l.length : Int) > 0) && !g) (geti l 0) (default : VValue)) fun y7 =>
      bindO (condO (decide ((l.length : Int) > 0) && !g) (decl_is ((⟨y7.token, y7.list⟩ : VValue), 13)) (default : Bool)) fun y8 =>
      bindO (condO (!y8 && (decide ((l.length : Int) > 0) && !g)) (geti l (w64 ((l.length : Int) - 1))) (default : VValue)) fun y9 =>
      bindO (condO (!y8 && (decide ((l.length : Int) > 0) && !g)) (decl_is ((⟨y9.token, y9.list⟩ : VValue), 13)) (default : Bool)) fun y10 =>
      k (bif decide ((l.length : Int) > 0) then bif y8 then true else y10 else false)) = (if g = true ∧ l ≠ [] then (k (bif decide ((l.length : Int) > 0) then bif (default : Bool) then true else (default : Bool) else false)) else k (endsS l)) := by
  cases l with
  | nil =>
    have : decide ((([] : List VValue).length : Int) > 0) = false := rfl
    simp only [this, Bool.false_and, condO_false, bindO, Option.bind_some, Bool.and_false, cond_false, ne_eq, not_true_eq_false, and_false, if_false, endsS]
  | cons v r =>
    have e1 : decide (((v :: r).length : Int) > 0) = true := decide_eq_true (by simp only [List.length_cons]; omega)
    have e2 : geti (v :: r) 0 = some v := rfl
    cases g with
    | true => simp only [e1, Bool.not_true, Bool.and_false, condO_false, bindO, Option.bind_some, cond_true, ne_eq, reduceCtorEq, not_false_eq_true, and_self, if_true]
    | false =>
      simp only [e1, Bool.not_false, Bool.and_true, condO_true, bindO, Option.bind_some, cond_true, e2, decl_is, false_and, if_false, reduceCtorEq]
      have e3 : w64 (((v :: r).length : Int) - 1) = (r.length : Int) := by
        rw [List.length_cons] at h ⊢
        rw [w64, wrap64_id (by omega) (by unfold big at h; omega)]; omega
      have e4 : geti (v :: r) (r.length : Int) = some ((v :: r).getLast (by simp)) := by
        rw [geti_eq (by simp), List.getLast_eq_getElem]
        simp
      rw [e3, e4]
      simp only [condO_some, Option.bind_some, endsS, isSp]
      cases v.token.kind == 13 <;> rfl

def badV (v : VValue) : Bool := v.token.kind == 17 || (v.token.kind == 9 && v.token.text == [33])
def bodyS (custom : Bool) (l : List VValue) : Bool := !(l.any badV) && (!(l.isEmpty && !custom) && !endsS l)
def declS (d : VDecl) : Bool := nameD d.name && (errS d.value == 0 && (gluS (tokL d.value) == 0 && (!clL d.value && bodyS (List.isPrefixOf [45, 45] d.name) d.value)))

mutual
theorem tokV_mem : ∀ (v : VValue) (t : VToken), t ∈ tokV v → t.text.length ≤ szV v ∧ t.unit.length ≤ szV v
  | ⟨t, l⟩, u, h => by
    rw [tokV] at h
    rw [szV]
    rcases List.mem_cons.1 h with rfl | h
    · constructor <;> omega
    · split at h
      · cases h
      · rcases List.mem_append.1 h with h | h
        · have := tokL_mem l u h; omega
        · obtain rfl := List.mem_singleton.1 h
          exact ⟨Nat.zero_le _, Nat.zero_le _⟩
theorem tokL_mem : ∀ (l : List VValue) (t : VToken), t ∈ tokL l → t.text.length ≤ szL l ∧ t.unit.length ≤ szL l
  | [], _, h => by rw [tokL] at h; cases h
  | v :: r, u, h => by
    rw [tokL] at h
    rw [szL]
    rcases List.mem_append.1 h with h | h
    · have := tokV_mem v u h; omega
    · have := tokL_mem r u h; omega
end
theorem glu_prog {l : List VValue} (h : szL l ≤ big) : glue_Check (tokL l) = some (gluS (tokL l)) :=
  glue_Check_eq fun t ht => by have := tokL_mem l t ht; omega
theorem glu_ref {l : List VValue} (h : szL l ≤ big) : ref03_Check (tokL l) = some (gluS (tokL l)) :=
  ref03_Check_eq fun t ht => by have := tokL_mem l t ht; omega

theorem any_bad_prog {l : List VValue} (h : l.length ≤ big) : slices_ContainsFunc_Value_2 l = some (l.any badV) := by
  unfold slices_ContainsFunc_Value_2 slices_IndexFunc_Value_2
  refine fold_any (loop_idx l badV h (fun i hi => ?_) ?_) (idxS_any _ _)
  · have : decl_Check_1 l[i] = some (badV l[i]) := by
      unfold decl_Check_1 decl_bang decl_is badV
      simp only [eta_Value, condO_some, bindO, Option.bind_some]
      cases l[i].token.kind == 17 <;> cases l[i].token.kind == 9 <;> rfl
    simp only [lt_true hi, cond_true, geti_eq hi, bindO, Option.bind_some, eta_Value, this]
  · simp only [lt_self, cond_false]

theorem decl_Check_eq {d : VDecl} (h : bCells (enc_VDecl d) ≤ big) : decl_Check d = some (bif declS d then 0 else 8) := by
  have hz := zDecl_eq d
  have hs := szL_zL d.value
  have hv : szL d.value ≤ big := by omega
  have hlen := szL_len d.value
  have hn : d.name.length ≤ big := by omega
  unfold decl_Check declS
  rw [nest_Flat_eq hv]
  simp only [bindO, Option.bind_some, decl_named_eq hn]
  cases nameD d.name with
  | false => simp only [Bool.not_false, cond_true, Bool.not_true, condO_false, Option.bind_some, Bool.false_and, cond_false]
  | true =>
    by_cases he : errS d.value = 0
    · rw [if_pos he]
      have he' : (errS d.value == 0) = true := beq_iff_eq.2 he
      have this : ((0 : Int) == 0) = true := rfl
      simp only [he', this, Bool.not_true, cond_false, Bool.not_false, condO_true, glu_prog hv, Option.bind_some, Bool.true_and, bne]
      cases hg : gluS (tokL d.value) == 0 with
      | false => simp only [Bool.not_false, cond_true, Bool.not_true, condO_false, Option.bind_some, Bool.false_and, cond_false]
      | true =>
        simp only [Bool.not_true, cond_false, Bool.not_false, condO_true, decl_closers_eq hv, Option.bind_some, Bool.true_and]
        cases clL d.value with
        | true => rfl
        | false =>
          simp only [cond_false, any_bad_prog (show d.value.length ≤ big by omega), Option.bind_some, bodyS, Bool.not_false, Bool.true_and]
          cases d.value.any badV with
          | true => rfl
          | false =>
            simp only [cond_false, hasPrefix_eq, condO_some, Option.bind_some, isEmpty_len, Bool.not_false, Bool.true_and]
            have hp := ends_prog (l := d.value) (by omega) (bif d.value.isEmpty then !(bif d.value.isEmpty then List.isPrefixOf [45, 45] d.name else default) else false)
            cases hd : d.value with
            | nil =>
              cases List.isPrefixOf [45, 45] d.name <;> rfl
            | cons v r =>
              have hp' := hp (by rw [hd]; rfl) (fun b => bif b then some 8 else some 0)
              rw [hd] at hp'
              simp only [List.isEmpty_cons, cond_false, Bool.false_eq_true, false_and, if_false] at hp'
              simp only [List.isEmpty_cons, cond_false, Bool.false_and, Bool.not_false, Bool.true_and]
              refine Eq.trans hp' ?_
              cases endsS (v :: r) <;> rfl
    · rw [if_neg he]
      have he' : (errS d.value == 0) = false := beq_eq_false_iff_ne.2 he
      simp only [he', bne, Bool.not_true, cond_false, Bool.not_false, cond_true, condO_false, Option.bind_some, Bool.false_and, Bool.and_false]

theorem custom_eq {x : Str} (hn : nameD x = true) : ref05_Custom x = some (List.isPrefixOf [45, 45] x) := by
  unfold ref05_Custom
  have e2 : (decide ((2 : Int) ≤ (x.length : Int)) || !(decide ((x.length : Int) > 2))) = true := by
    by_cases h : 2 ≤ x.length
    · rw [decide_eq_true (show (2 : Int) ≤ (x.length : Int) by omega)]; rfl
    · rw [decide_eq_false (show ¬ ((x.length : Int) > 2) by omega)]; simp
  rw [need_of e2]
  have hp := pre_take x
  cases hpp : List.isPrefixOf [45, 45] x with
  | true =>
    rw [hpp] at hp
    have h3 := pre_len hpp
    unfold nameD at hn
    rw [hpp] at hn
    simp only [cond_true, Bool.and_eq_true] at hn
    rw [hn.2.2.2] at h3
    rw [h3]
    have : decide ((x.length : Int) ≥ 2) = true := decide_eq_true (by have := of_decide_eq_true h3; omega)
    rw [this] at hp
    exact congrArg some hp
  | false =>
    rw [hpp] at hp
    cases h3 : decide ((x.length : Int) > 2) with
    | false => rfl
    | true =>
      have : decide ((x.length : Int) ≥ 2) = true := decide_eq_true (by have := of_decide_eq_true h3; omega)
      rw [this] at hp
      exact congrArg some hp
theorem len_beq {α : Type} (a b : List α) : ((a.length : Int) == (b.length : Int)) = (a.length == b.length) := by
  rw [Bool.eq_iff_iff, beq_iff_eq, beq_iff_eq]; omega
theorem ref05_Valued_eq {x : Str} {l : List VValue} (h : szL l ≤ big) (hn : nameD x = true) :
    ref05_Valued (x, l) = some (errS l == 0 && (gluS (tokL l) == 0 && (!clL l && bodyS (List.isPrefixOf [45, 45] x) l))) := by
  have hlen := szL_len l
  unfold ref05_Valued
  simp only [ref_check h, ref_tokens h, bindO, Option.bind_some, bne, condO_some]
  cases he : errS l == 0 with
  | false => simp only [Bool.not_false, cond_true, Bool.not_true, condO_false, Option.bind_some, Bool.false_and, cond_false]
  | true =>
    simp only [Bool.not_true, cond_false, Bool.not_false, cond_true, condO_true, glu_ref h, Option.bind_some, Bool.true_and]
    cases hg : gluS (tokL l) == 0 with
    | false => simp only [Bool.not_false, cond_true, Bool.not_true, condO_false, Option.bind_some, Bool.false_and, cond_false]
    | true =>
      simp only [Bool.not_true, cond_false, Bool.not_false, condO_true, ref05_closers_eq h, Option.bind_some, Bool.true_and]
      cases clL l with
      | true => rfl
      | false =>
        simp only [cond_false, ref_trimmed h, Option.bind_some, len_beq, trimS_ends, isEmpty_len, Bool.not_not, Bool.not_false, Bool.true_and, custom_eq hn, condO_some]
        have hl : loopK (fun (s7 : Int) =>
          bif decide (s7 < (l.length : Int)) then
            bindO (geti l s7) fun y8 =>
            bif bif y8.token.kind == 17 then true else bif y8.token.kind == 9 then y8.token.text == [33] else false then
              some (LO.ret false)
            else
              some (LO.again (w64 (s7 + 1)))
          else
            some (LO.out ()) : Int → Option (LO (Int) (Unit) _)) 0 (fun _ => some true) = some (!(l.any badV)) := by
          refine (loopK_find l (fun v => bif badV v then some false else none) () (fun i hi => ?_) ?_).trans ?_
          · simp only [lt_true hi, cond_true, geti_eq hi, bindO, Option.bind_some, badV, w64_succ hi (show l.length ≤ big by omega)]
            cases l[i].token.kind == 17 <;> cases l[i].token.kind == 9 <;> cases l[i].token.text == [33] <;> rfl
          · simp only [lt_self, cond_false]
          · rw [find_any]
            cases l.any badV <;> rfl
        unfold bodyS
        simp only [bindO] at hl
        rw [hl]
        cases endsS l <;> cases l.isEmpty <;> cases List.isPrefixOf [45, 45] x <;> cases l.any badV <;> rfl
theorem ref05_Check_eq {d : VDecl} (h : bCells (enc_VDecl d) ≤ big) : ref05_Check d = some (bif declS d then 0 else 8) := by
  have hz := zDecl_eq d
  have hs := szL_zL d.value
  have hv : szL d.value ≤ big := by omega
  have hn : d.name.length ≤ big := by omega
  unfold ref05_Check declS
  simp only [ref05_Named_eq hn, bindO, Option.bind_some]
  cases hnd : nameD d.name with
  | false => rfl
  | true =>
    simp only [Bool.not_true, Bool.not_false, condO_true, ref05_Valued_eq hv hnd, Option.bind_some, Bool.true_and]
    cases (errS d.value == 0 && (gluS (tokL d.value) == 0 && (!clL d.value && bodyS (List.isPrefixOf [45, 45] d.name) d.value))) <;> rfl
end Go.Lv.VT

namespace Go.Lv.VT
theorem eta_Cond (c : VCond) : (⟨c.kind, c.name, c.num, c.decl, c.list⟩ : VCond) = c := by cases c; rfl
def plainD (d : VDecl) : Bool := d.name == [] && (d.value.isEmpty && !d.important)
def bareC (c : VCond) : Bool := c.name == [] && (c.num == 0 && plainD c.decl)
theorem cond_bare_eq (c : VCond) : cond_bare c = some (bareC c) := by
  unfold cond_bare bareC plainD
  rw [isEmpty_len]
  cases c.name == [] <;> cases c.num == 0 <;> cases c.decl.name == [] <;> cases c.decl.value.isEmpty <;> rfl
theorem ref10_plain_eq (d : VDecl) : ref10_plain d = some (plainD d) := by
  unfold ref10_plain plainD
  rw [isEmpty_len]
  cases d.name == [] <;> cases d.value.isEmpty <;> rfl
theorem ref10_listed_eq (c : VCond) : ref10_listed c = some (bareC c) := by
  unfold ref10_listed bareC
  simp only [ref10_plain_eq, condO_some, bindO, Option.bind_some]
  cases c.name == [] <;> cases c.num == 0 <;> rfl

def keyS (x : Str) : Bool := x == [] || (x == [97, 110, 100] || (x == [111, 114] || (x == [110, 111, 116] || x == [111, 110, 108, 121])))
def medS (x : Str) : Bool := !keyS x && (decide (x.length ≤ 64) && (lowS x == x && noNul x))
theorem contains_string_eq (l : List Str) (x : Str) (h : l.length ≤ big) : slices_Contains_string (l, x) = some (l.any fun v => x == v) := by
  unfold slices_Contains_string slices_Index_string
  refine fold_any (loop_idx l (fun v => x == v) h (fun i hi => ?_) ?_) (idxS_any _ _)
  · simp only [lt_true hi, cond_true, geti_eq hi, bindO, Option.bind_some]
  · simp only [lt_self, cond_false]
theorem key_any (x : Str) : (([[], [97, 110, 100], [111, 114], [110, 111, 116], [111, 110, 108, 121]] : List Str).any fun v => x == v) = keyS x := by
  simp only [List.any_cons, List.any_nil, Bool.or_false]
  rfl
theorem cond_medium_eq {x : Str} (h : x.length ≤ big) : cond_medium x = some (medS x) := by
  have e : decide ((x.length : Int) ≤ 64) = decide (x.length ≤ 64) := le_not _ 64
  have e1 : decide (Lib.indexByte x (0 : Int).toNat.toUInt8 < 0) = noNul x := by rw [neg_dec, idx_nul, Bool.not_not]
  have hcs := contains_string_eq [[], [97, 110, 100], [111, 114], [110, 111, 116], [111, 110, 108, 121]] x (by decide)
  unfold cond_medium medS
  simp only [hcs, key_any, prog_Lower h, indexByte_eq, condO_some, bindO, Option.bind_some, e]
  cases keyS x <;> cases decide (x.length ≤ 64) <;> try rfl
  simp only [Bool.not_false, cond_true, Bool.true_and]
  cases lowS x == x
  · rfl
  · exact congrArg some e1
theorem ref10_medium_eq {x : Str} (h : x.length ≤ big) : ref10_medium x = some (medS x) := by
  have e : decide ((x.length : Int) > 64) = !decide (x.length ≤ 64) := gt_not _ 64
  have ec := beq_comm' x (lowS x)
  unfold ref10_medium medS
  simp only [ref_Lower h, condO_some, bindO, Option.bind_some, e]
  have hl : loopK (fun (s1 : Int) => bif decide (s1 < (x.length : Int)) then
        (geti x s1).bind fun y2 => bif (y2.toNat : Int) == 0 then some (LO.ret false) else some (LO.again (w64 (s1 + 1)))
      else some (LO.out ()) : Int → Option (LO (Int) (Unit) _)) 0 (fun _ => some true) = some (noNul x) := by
    refine (loopK_find x (fun b => bif (!(b == 0)) then none else some false) () (fun i hi => ?_) ?_).trans ?_
    · simp only [lt_true hi, cond_true, geti_eq hi, Option.bind_some, byte_zero, w64_succ hi h]
      cases x[i] == 0 <;> rfl
    · simp only [lt_self, cond_false]
    · rw [find_all]
      unfold noNul
      cases x.all (fun b => !(b == 0)) <;> rfl
  rw [hl]
  unfold keyS
  cases x == [] <;> cases decide (x.length ≤ 64) <;> cases x == [97, 110, 100] <;> cases x == [111, 114] <;> cases x == [110, 111, 116] <;> cases x == [111, 110, 108, 121] <;>
    first | rfl | (simp only [cond_true, cond_false, Bool.or_false, Bool.not_false, Bool.not_true, Bool.true_and, ec]; cases lowS x == x <;> rfl)

def isN (n : Int) : Bool := decide (-1000000000000 ≤ n) && decide (n ≤ 1000000000000)
theorem ref06_Is_eq (n : Int) : ref06_Is n = some (isN n) := by
  unfold ref06_Is isN
  show some (bif decide (-1000000000000 ≤ n) then _ else _) = _
  cases decide (-1000000000000 ≤ n) <;> rfl
theorem fixed_Check_eq (n : Int) : fixed_Check n = some (bif isN n then 0 else 8) := by
  unfold fixed_Check fixed_check
  have e1 : decide (n < -1000000000000) = !decide (-1000000000000 ≤ n) := by
    have := ge_not n (-1000000000000)
    show _ = !decide (n ≥ _)
    rw [this, Bool.not_not]
  have e2 : decide (n > 1000000000000) = !decide (n ≤ 1000000000000) := by
    have := ge_not 1000000000000 n
    show decide (1000000000000 < n) = !decide (1000000000000 ≥ n)
    rw [this, Bool.not_not]
  have : loopK (fun (s1 : Int) =>
      bif decide (s1 < (([n] : List Int).length : Int)) then
        bindO (geti [n] s1) fun y2 =>
        bif bif decide (y2 < (-1000000000000)) then true else decide (y2 > 1000000000000) then
          some (LO.ret (8 : Int))
        else
          some (LO.again (w64 (s1 + 1)))
      else
        some (LO.out ()) : Int → Option (LO (Int) (Unit) Int)) 0 (fun o3 => some (0 : Int)) = some (bif isN n then 0 else 8) := by
    refine (loopK_find [n] (fun n => bif isN n then none else some 8) () (fun i hi => ?_) ?_).trans ?_
    · obtain rfl : i = 0 := by simpa using hi
      simp only [lt_true hi, cond_true, geti_eq hi, bindO, Option.bind_some, List.getElem_cons_zero, e1, e2, isN]
      cases decide (-1000000000000 ≤ n) <;> cases decide (n ≤ 1000000000000) <;> rfl
    · simp only [lt_self, cond_false]
    · rw [find_all]
      simp only [List.all_cons, List.all_nil, Bool.and_true]
      cases isN n <;> rfl
  rw [this]; rfl

theorem zCond_mem {c y : VCond} (h : y ∈ c.list) : bCells (enc_VCond y) < bCells (enc_VCond c) := by
  have hz := zCond_eq c
  have := zL_mem (f := enc_VCond) h
  have := zDecl_pos c.decl
  omega
theorem zCond_list (c : VCond) : c.list.length ≤ bCells (enc_VCond c) := by
  have hz := zCond_eq c
  have := zL_len zCond_pos c.list
  have := zDecl_pos c.decl
  omega
theorem zCond_decl (c : VCond) : bCells (enc_VDecl c.decl) ≤ bCells (enc_VCond c) := by
  have hz := zCond_eq c
  omega

end Go.Lv.VT

namespace Go.Lv.VT
theorem w64_nat {n : Nat} (h : n ≤ big) : w64 ((n : Int) + 1) = ((n + 1 : Nat) : Int) := by
  rw [w64, wrap64_id (by omega) (by unfold big at h; omega)]; omega
theorem w64_nat' {n : Nat} (h : n ≤ big) : w64 (1 + (n : Int)) = ((n + 1 : Nat) : Int) := by
  rw [w64, wrap64_id (by omega) (by unfold big at h; omega)]; omega
theorem sum_take {α : Type} (f : α → Nat) : ∀ {l : List α} {i : Nat} (h : i < l.length), ((l.take (i + 1)).map f).sum = ((l.take i).map f).sum + f l[i]
  | [], _, h => by cases h
  | v :: l, 0, _ => by simp
  | v :: l, i + 1, h => by
    simp only [List.take_succ_cons, List.map_cons, List.sum_cons, List.getElem_cons_succ]
    rw [sum_take f (l := l) (i := i) (by simpa using h)]
    omega
theorem sum_take_le {α : Type} (f : α → Nat) : ∀ (l : List α) (i : Nat), ((l.take i).map f).sum ≤ (l.map f).sum
  | [], _ => by simp
  | v :: l, 0 => by simp
  | v :: l, i + 1 => by
    simp only [List.take_succ_cons, List.map_cons, List.sum_cons]
    have := sum_take_le f l i
    omega
theorem mx_take {α : Type} (f : α → Nat) : ∀ {l : List α} {i : Nat} (h : i < l.length), mx f (l.take (i + 1)) = max (mx f (l.take i)) (f l[i])
  | [], _, h => by cases h
  | v :: l, 0, _ => by simp [mx]
  | v :: l, i + 1, h => by
    simp only [List.take_succ_cons, mx, List.getElem_cons_succ]
    rw [mx_take f (l := l) (i := i) (by simpa using h)]
    omega
theorem all_take {α : Type} (p : α → Bool) : ∀ {l : List α} {i : Nat} (h : i < l.length), (l.take (i + 1)).all p = ((l.take i).all p && p l[i])
  | [], _, h => by cases h
  | v :: l, 0, _ => by simp
  | v :: l, i + 1, h => by
    simp only [List.take_succ_cons, List.all_cons, List.getElem_cons_succ]
    rw [all_take p (l := l) (i := i) (by simpa using h), Bool.and_assoc]
theorem all_get {α : Type} {p : α → Bool} {l : List α} {i : Nat} (h : i < l.length) (hp : p l[i] = false) : l.all p = false := by
  rw [List.all_eq_false]
  exact ⟨l[i], List.getElem_mem h, by rw [hp]; simp⟩

mutual
def sizC : VCond → Nat
  | ⟨_, _, _, _, l⟩ => 1 + sizCs l
def sizCs : List VCond → Nat
  | [] => 0
  | c :: r => sizC c + sizCs r
end
theorem sizCs_sum (l : List VCond) : sizCs l = (l.map sizC).sum := by
  induction l with
  | nil => rw [sizCs]; rfl
  | cons c l ih => rw [sizCs, ih]; rfl
theorem sizC_eq (c : VCond) : sizC c = 1 + (c.list.map sizC).sum := by
  obtain ⟨k, n, m, d, l⟩ := c
  rw [sizC, sizCs_sum]
theorem sizCs_le : ∀ l : List VCond, sizCs l ≤ zL enc_VCond l := by
  have key : ∀ (n : Nat) (l : List VCond), zL enc_VCond l < n → sizCs l ≤ zL enc_VCond l := by
    intro n
    induction n with
    | zero => intro l h; omega
    | succ n ih =>
      intro l
      induction l with
      | nil => intro _; rw [sizCs]; exact Nat.zero_le _
      | cons v l ihl =>
        intro h
        rw [zL_cons] at h ⊢
        rw [sizCs, sizC_eq, ← sizCs_sum]
        have hz := zCond_eq v
        have hd := zDecl_pos v.decl
        have h1 := ih v.list (by omega)
        have h2 := ihl (by omega)
        omega
  exact fun l => key _ l (Nat.lt_succ_self _)
theorem sizC_le (c : VCond) : sizC c ≤ bCells (enc_VCond c) := by
  have := sizCs_le [c]
  rw [sizCs, sizCs, zL_cons, zL_nil] at this
  omega

theorem ref10_Size_rel {c : VCond} {m : Nat} (h : bCells (enc_VCond c) ≤ big) (hm : m ≤ big) :
    ∃ r : Nat, ref10_Size (c, (m : Int)) = some (r : Int) ∧ r ≤ sizC c ∧ (sizC c ≤ m → r = sizC c) ∧ (m < sizC c → m < r) := by
  have key : ∃ y : Int, ref10_Size (c, (m : Int)) = some y ∧ ∃ r : Nat, y = (r : Int) ∧ r ≤ sizC c ∧ ∀ m' : Nat, (m : Int) = (m' : Int) → (sizC c ≤ m' → r = sizC c) ∧ (m' < sizC c → m' < r) := by
    refine recE_rel mono_ref10_Size (fun x : VCond × Int => bCells (enc_VCond x.1)) (fun x => bCells (enc_VCond x.1) ≤ big ∧ ∃ m : Nat, x.2 = (m : Int) ∧ m ≤ big)
      (fun x (y : Int) => ∃ r : Nat, y = (r : Int) ∧ r ≤ sizC x.1 ∧ ∀ m' : Nat, x.2 = (m' : Int) → (sizC x.1 ≤ m' → r = sizC x.1) ∧ (m' < sizC x.1 → m' < r)) (fun S x hx hS => ?_) (x := (c, (m : Int))) ⟨h, m, rfl, hm⟩
    obtain ⟨c, n⟩ := x
    obtain ⟨hc, m, hn, hm⟩ := hx
    have hn : n = (m : Int) := hn
    have hc : bCells (enc_VCond c) ≤ big := hc
    subst hn
    have hlen := zCond_list c
    have hsz := sizC_le c
    have he := sizC_eq c
    unfold ref10_Size_B
    have hw : ∀ a : Nat, a ≤ big → w64 ((a : Int) + 0) = (a : Int) := fun a ha => by rw [w64, wrap64_id (by omega) (by unfold big at ha; omega)]; omega
    refine loop_rel (A := Nat) c.list.length (fun i a => ((a : Int), (i : Int))) (fun i a => a ≤ 1 + ((c.list.take i).map sizC).sum ∧ (1 + ((c.list.take i).map sizC).sum ≤ m → a = 1 + ((c.list.take i).map sizC).sum) ∧ (m < 1 + ((c.list.take i).map sizC).sum → m < a)) _ (a0 := 1) rfl (by simp) (fun i a hi hI => ?_) (fun a hI => .inl ?_)
    · obtain ⟨i1, i2, i3⟩ := hI
      have ht := sum_take_le sizC c.list i
      have ht1 := sum_take_le sizC c.list (i + 1)
      rw [sum_take sizC hi] at ht1
      have hmm := zCond_mem (List.getElem_mem hi)
      by_cases ham : a ≤ m
      · have ha : a = 1 + ((c.list.take i).map sizC).sum := i2 (by omega)
        have e1 : decide ((a : Int) ≤ (m : Int)) = true := decide_eq_true (by omega)
        have hw2 : w64 ((m : Int) - (a : Int)) = ((m - a : Nat) : Int) := by rw [w64, wrap64_id (by omega) (by unfold big at hm; omega)]; omega
        obtain ⟨y, hy1, r, hy2, hy3, hy4⟩ := hS (c.list[i], ((m - a : Nat) : Int)) ⟨by show bCells (enc_VCond c.list[i]) ≤ big; omega, m - a, rfl, by omega⟩ hmm
        have hy3 : r ≤ sizC c.list[i] := hy3
        obtain ⟨hy5, hy6⟩ := hy4 (m - a) rfl
        have hy5 : sizC c.list[i] ≤ m - a → r = sizC c.list[i] := hy5
        have hy6 : m - a < sizC c.list[i] → m - a < r := hy6
        have hw3 : w64 ((a : Int) + (r : Int)) = ((a + r : Nat) : Int) := w64_add (by omega)
        refine .inl ⟨a + r, ?_, ?_, ?_, ?_⟩
        · simp only [lt_true hi, e1, cond_true, geti_eq hi, bindO, Option.bind_some, eta_Cond, hw2, hy1, hy2, hw3, w64_succ hi (show c.list.length ≤ big by omega)]
        · rw [sum_take sizC hi]; omega
        · rw [sum_take sizC hi]; omega
        · rw [sum_take sizC hi]; omega
      · have e1 : decide ((a : Int) ≤ (m : Int)) = false := decide_eq_false (by omega)
        refine .inr (.inr ⟨(a : Int), ?_, (a : Int), rfl, a, rfl, ?_, fun m' hm' => ⟨fun h => ?_, fun h => ?_⟩⟩)
        · simp only [lt_true hi, e1, cond_true, cond_false]
        · show a ≤ sizC c; omega
        · have hm' : (m : Int) = (m' : Int) := hm'
          have h : sizC c ≤ m' := h
          show a = sizC c; omega
        · have hm' : (m : Int) = (m' : Int) := hm'
          show m' < a; omega
    · rw [List.take_length] at hI
      obtain ⟨i1, i2, i3⟩ := hI
      refine ⟨(a : Int), ?_, (a : Int), rfl, a, rfl, ?_, fun m' hm' => ⟨fun h => ?_, fun h => ?_⟩⟩
      · simp only [lt_self, cond_false]
      · show a ≤ sizC c; omega
      · have hm' : (m : Int) = (m' : Int) := hm'
        have h : sizC c ≤ m' := h
        show a = sizC c; omega
      · have hm' : (m : Int) = (m' : Int) := hm'
        have h : m' < sizC c := h
        show m' < a; omega
  obtain ⟨y, h1, r, rfl, h2, h3⟩ := key
  exact ⟨r, h1, h2, h3 m rfl⟩

def leafC (c : VCond) : Bool := c.kind == 7 || c.kind == 8
mutual
def deepC : VCond → Nat
  | ⟨k, _, _, d, l⟩ => bif k == 7 then 1 + deepL d.value else bif k == 8 then 1 else deepCs l
def deepCs : List VCond → Nat
  | [] => 0
  | c :: r => max ((bif leafC c then 0 else 1) + deepC c) (deepCs r)
end
def stepC (c : VCond) : Nat := (bif leafC c then 0 else 1) + deepC c
theorem deepCs_mx (l : List VCond) : deepCs l = mx stepC l := by
  induction l with
  | nil => rw [deepCs]; rfl
  | cons c l ih => rw [deepCs, ih]; rfl
theorem deepC_eq (c : VCond) : deepC c = bif c.kind == 7 then 1 + deepL c.decl.value else bif c.kind == 8 then 1 else mx stepC c.list := by
  obtain ⟨k, n, m, d, l⟩ := c
  rw [deepC, deepCs_mx]
theorem deepC_le : ∀ c : VCond, deepC c ≤ bCells (enc_VCond c) := by
  have key : ∀ (n : Nat) (c : VCond), bCells (enc_VCond c) < n → deepC c ≤ bCells (enc_VCond c) := by
    intro n
    induction n with
    | zero => intro c h; omega
    | succ n ih =>
      intro c h
      have hz := zCond_eq c
      have hd := zDecl_eq c.decl
      rw [deepC_eq]
      cases c.kind == 7 with
      | true =>
        have h1 := deepL_le c.decl.value
        have h2 := szL_zL c.decl.value
        simp only [cond_true]; omega
      | false =>
        cases c.kind == 8 with
        | true => simp only [cond_true, cond_false]; omega
        | false =>
          simp only [cond_false]
          have : ∀ l : List VCond, (∀ y ∈ l, y ∈ c.list) → mx stepC l ≤ 1 + zL enc_VCond l := by
            intro l
            induction l with
            | nil => intro _; exact Nat.zero_le _
            | cons y l ihl =>
              intro hl
              have h1 := ihl fun z hz => hl z (List.mem_cons_of_mem _ hz)
              have h2 := zCond_mem (hl y List.mem_cons_self)
              have h3 := ih y (by omega)
              have h4 : stepC y ≤ 1 + deepC y := by unfold stepC; cases leafC y <;> simp only [cond_true, cond_false] <;> omega
              rw [mx, zL_cons]
              omega
          have := this c.list fun _ h => h
          omega
  exact fun c => key _ c (Nat.lt_succ_self _)
theorem ref10_Deep_eq {c : VCond} (h : bCells (enc_VCond c) ≤ big) : ref10_Deep c = some (deepC c : Int) := by
  refine recE_meas (fun c => bCells (enc_VCond c)) (fun c => bCells (enc_VCond c) ≤ big) (fun c => (deepC c : Int)) (fun S c hc hS => ?_) h
  have hz := zCond_eq c
  have hd := zDecl_eq c.decl
  have hlen := zCond_list c
  have hv := szL_zL c.decl.value
  unfold ref10_Deep_B
  rw [deepC_eq]
  cases h7 : c.kind == 7 with
  | true =>
    have h1 := deepL_le c.decl.value
    simp only [cond_true, ref_deep (show szL c.decl.value ≤ big by omega), bindO, Option.bind_some, w64_nat' (show deepL c.decl.value ≤ big by omega)]
    rw [Nat.add_comm]
  | false =>
    cases h8 : c.kind == 8 with
    | true => rfl
    | false =>
      simp only [cond_false]
      refine (loop_max c.list stepC (fun a i => ((a : Int), (i : Int))) (fun a => (a : Int)) (a0 := 0) rfl (fun i a hi => ?_) (fun a => ?_)).trans ?_
      · have hm := zCond_mem (List.getElem_mem hi)
        have hs := hS c.list[i] (by omega) hm
        have hst := deepC_le c.list[i]
        simp only [lt_true hi, cond_true, geti_eq hi, bindO, Option.bind_some, eta_Cond, hs, w64_succ hi (show c.list.length ≤ big by omega)]
        have hlf : (bif c.list[i].kind == 7 then true else c.list[i].kind == 8) = leafC c.list[i] := by unfold leafC; cases c.list[i].kind == 7 <;> rfl
        rw [hlf]
        have hst' : stepC c.list[i] = (bif leafC c.list[i] then 0 else 1) + deepC c.list[i] := rfl
        cases hlc : leafC c.list[i] with
        | true =>
          rw [hlc, cond_true, Nat.zero_add] at hst'
          have hw : w64 (0 + (deepC c.list[i] : Int)) = (stepC c.list[i] : Int) := by rw [w64, wrap64_id (by omega) (by unfold big at hc; omega)]; omega
          simp only [cond_true, joinK_out, hw, max_if]
        | false =>
          rw [hlc, cond_false] at hst'
          have hw : w64 (1 + (deepC c.list[i] : Int)) = (stepC c.list[i] : Int) := by rw [w64, wrap64_id (by omega) (by unfold big at hc; omega)]; omega
          simp only [cond_false, joinK_out, hw, max_if]
      · simp only [lt_self, cond_false]
      · rw [Nat.zero_max]

mutual
def supC : VCond → Bool
  | ⟨k, n, m, d, l⟩ => bif k == 7 then l.isEmpty && (n == [] && (m == 0 && declS d)) else bif k == 8 then l.isEmpty && bareC ⟨k, n, m, d, l⟩ else
    (k == 3 || (k == 1 || k == 2)) && (bareC ⟨k, n, m, d, l⟩ && ((bif k == 3 then l.length == 1 else decide (2 ≤ l.length)) && supCs l))
def supCs : List VCond → Bool
  | [] => true
  | c :: r => supC c && supCs r
end
theorem supCs_all (l : List VCond) : supCs l = l.all supC := by
  induction l with
  | nil => rw [supCs]; rfl
  | cons c l ih => rw [supCs, ih]; rfl
theorem supC_eq (c : VCond) : supC c = bif c.kind == 7 then c.list.isEmpty && (c.name == [] && (c.num == 0 && declS c.decl)) else bif c.kind == 8 then c.list.isEmpty && bareC c else
    (c.kind == 3 || (c.kind == 1 || c.kind == 2)) && (bareC c && ((bif c.kind == 3 then c.list.length == 1 else decide (2 ≤ c.list.length)) && c.list.all supC)) := by
  obtain ⟨k, n, m, d, l⟩ := c
  rw [supC, supCs_all]
theorem lt_two {α : Type} (l : List α) : decide ((l.length : Int) < 2) = !decide (2 ≤ l.length) := by
  by_cases h : 2 ≤ l.length
  · rw [decide_eq_true h, decide_eq_false (by omega)]; rfl
  · rw [decide_eq_false h, decide_eq_true (by omega)]; rfl
theorem len_one' {α : Type} (l : List α) : ((l.length : Int) == 1) = (l.length == 1) := by rw [Bool.eq_iff_iff, beq_iff_eq, beq_iff_eq]; omega

theorem ref10_supported_eq {c : VCond} (h : bCells (enc_VCond c) ≤ big) : ref10_supported c = some (supC c) := by
  refine recE_meas (fun c => bCells (enc_VCond c)) (fun c => bCells (enc_VCond c) ≤ big) (fun c => supC c) (fun S c hc hS => ?_) h
  have hlen := zCond_list c
  have hd := zCond_decl c
  unfold ref10_supported_B
  rw [supC_eq]
  simp only [eta_Cond, ref10_listed_eq, ref05_Check_eq (show bCells (enc_VDecl c.decl) ≤ big by omega), isEmpty_len, condO_some, bindO, Option.bind_some]
  cases h7 : c.kind == 7 with
  | true =>
    simp only [cond_true]
    cases c.name == [] <;> cases c.num == 0 <;> cases c.list.isEmpty <;> cases declS c.decl <;> rfl
  | false =>
    cases h8 : c.kind == 8 with
    | true =>
      simp only [cond_true, cond_false]
      cases bareC c <;> cases c.list.isEmpty <;> rfl
    | false =>
      simp only [cond_false]
      cases h3 : c.kind == 3 with
      | true =>
        simp only [cond_true, Bool.true_or, Bool.true_and, len_one']
        cases bareC c with
        | false => rfl
        | true =>
          cases hl : c.list with
          | nil => rfl
          | cons y r =>
            cases r with
            | nil =>
              have hm := zCond_mem (c := c) (y := y) (by rw [hl]; exact List.mem_cons_self)
              have e2 : geti [y] 0 = some y := rfl
              have e3 : (([y] : List VCond).length == 1) = true := rfl
              simp only [e2, e3, cond_true, condO_true, Option.bind_some, hS y (show bCells (enc_VCond y) ≤ big by omega) hm, Bool.true_and, List.all_cons, List.all_nil, Bool.and_true]
            | cons z r =>
              have e3 : ((y :: z :: r).length == 1) = false := by simp
              simp only [e3, cond_true, condO_false, Option.bind_some, cond_false, Bool.false_and, Bool.and_false]
      | false =>
        have hj : ∀ {R : Type} (k : Bool → Option R), joinK (X := Bool) (bif c.kind == 1 then some (LX.out (c.kind == 1)) else some (LX.out (c.kind == 2))) k = k (c.kind == 1 || c.kind == 2) := by
          intro R k
          cases c.kind == 1 <;> rfl
        simp only [cond_false, Bool.false_or]
        rw [hj]
        cases (c.kind == 1 || c.kind == 2) with
        | false => rfl
        | true =>
          simp only [cond_true, lt_two, Bool.true_and]
          have hl : loopK (fun (s8 : Int) =>
                bif decide (s8 < (c.list.length : Int)) then
                  (geti c.list s8).bind fun y9 =>
                  (S y9).bind fun y10 =>
                  bif !y10 then
                    some (LO.ret false)
                  else
                    some (LO.again (w64 (s8 + 1)))
                else
                  some (LO.out ()) : Int → Option (LO (Int) (Unit) _)) 0 (fun _ => some true) = some (c.list.all supC) := by
            refine (loopK_find c.list (fun v => bif supC v then none else some false) () (fun i hi => ?_) ?_).trans ?_
            · have hm := zCond_mem (List.getElem_mem hi)
              simp only [lt_true hi, cond_true, geti_eq hi, Option.bind_some, hS _ (show bCells (enc_VCond c.list[i]) ≤ big by omega) hm, w64_succ hi (show c.list.length ≤ big by omega)]
              cases supC c.list[i] <;> rfl
            · simp only [lt_self, cond_false]
            · rw [find_all]
              cases c.list.all supC <;> rfl
          rw [hl]
          cases bareC c <;> cases decide (2 ≤ c.list.length) <;> rfl

theorem cond_leaf_eq (c : VCond) : cond_leaf c = some (leafC c) := by
  unfold cond_leaf leafC
  cases c.kind == 7 <;> rfl
theorem cond_look_rel {c : VCond} {m : Nat} (h : bCells (enc_VCond c) ≤ big) (hm : m ≤ 1500) :
    ∃ y : (Int × Bool) × Int, cond_look (c, (m : Int)) = some y ∧ y.1.2 = (supC c && decide (m + sizC c ≤ 1500)) ∧ (y.1.2 = true → y.1.1 = (deepC c : Int) ∧ y.2 = ((m + sizC c : Nat) : Int)) := by
  have key : ∃ y : (Int × Bool) × Int, cond_look (c, (m : Int)) = some y ∧ ∀ m' : Nat, (m : Int) = (m' : Int) → y.1.2 = (supC c && decide (m' + sizC c ≤ 1500)) ∧ (y.1.2 = true → y.1.1 = (deepC c : Int) ∧ y.2 = ((m' + sizC c : Nat) : Int)) := by
    refine recE_rel mono_cond_look (fun x : VCond × Int => bCells (enc_VCond x.1)) (fun x => bCells (enc_VCond x.1) ≤ big ∧ ∃ m : Nat, x.2 = (m : Int) ∧ m ≤ 1500)
      (fun x (y : (Int × Bool) × Int) => ∀ m' : Nat, x.2 = (m' : Int) → y.1.2 = (supC x.1 && decide (m' + sizC x.1 ≤ 1500)) ∧ (y.1.2 = true → y.1.1 = (deepC x.1 : Int) ∧ y.2 = ((m' + sizC x.1 : Nat) : Int))) (fun S x hx hS => ?_) (x := (c, (m : Int))) ⟨h, m, rfl, hm⟩
    obtain ⟨c, n⟩ := x
    obtain ⟨hc, m, hn, hm⟩ := hx
    have hn : n = (m : Int) := hn
    have hc : bCells (enc_VCond c) ≤ big := hc
    subst hn
    have hlen := zCond_list c
    have hd := zCond_decl c
    have hsz := sizC_le c
    have he := sizC_eq c
    have hv := szL_zL c.decl.value
    have hzd := zDecl_eq c.decl
    have fin : ∀ (d : Int) (b : Bool) (n : Int), b = (supC c && decide (m + sizC c ≤ 1500)) → (b = true → d = (deepC c : Int) ∧ n = ((m + sizC c : Nat) : Int)) →
        ∀ m' : Nat, (m : Int) = (m' : Int) → b = (supC c && decide (m' + sizC c ≤ 1500)) ∧ (b = true → d = (deepC c : Int) ∧ n = ((m' + sizC c : Nat) : Int)) := by
      intro d b n h1 h2 m' hm'
      obtain rfl : m = m' := by omega
      exact ⟨h1, h2⟩
    have hw : w64 ((m : Int) + 1) = ((m + 1 : Nat) : Int) := w64_nat (by unfold big; omega)
    unfold cond_look_B
    simp only [hw, eta_Cond]
    by_cases hm1 : m + 1 > 1500
    · have e1 : decide (((m + 1 : Nat) : Int) > 1500) = true := decide_eq_true (by omega)
      simp only [e1, cond_true]
      have e2 : decide (m + sizC c ≤ 1500) = false := decide_eq_false (by omega)
      exact ⟨_, rfl, fin _ _ _ (by rw [e2, Bool.and_false]) (fun h => by cases h)⟩
    have e1 : decide (((m + 1 : Nat) : Int) > 1500) = false := decide_eq_false (by omega)
    simp only [e1, cond_false]
    have hs := supC_eq c
    have hdp := deepC_eq c
    cases h7 : c.kind == 7 with
    | true =>
      rw [h7] at hs hdp
      simp only [cond_true] at hs hdp ⊢
      rw [nest_depth (show szL c.decl.value ≤ big by omega), decl_Check_eq (show bCells (enc_VDecl c.decl) ≤ big by omega)]
      simp only [bindO, Option.bind_some, isEmpty_len, condO_some]
      refine ⟨_, rfl, fin _ _ _ ?_ ?_⟩
      · rw [hs]
        have hde : declS c.decl = (declS c.decl && (errS c.decl.value == 0)) := by
          unfold declS
          cases nameD c.decl.name <;> cases errS c.decl.value == 0 <;> simp
        cases hle : c.list.isEmpty with
        | false => rfl
        | true =>
          have hl : c.list = [] := List.isEmpty_iff.1 hle
          rw [hl] at he
          have e2 : decide (m + sizC c ≤ 1500) = true := decide_eq_true (by rw [he]; simp; omega)
          rw [e2]
          by_cases her : errS c.decl.value = 0
          · rw [if_pos her]
            cases c.name == [] <;> cases c.num == 0 <;> cases declS c.decl <;> rfl
          · rw [if_neg her]
            have her' := beq_eq_false_iff_ne.2 her
            rw [her', Bool.and_false] at hde
            rw [hde]
            simp only [her']
            cases c.name == [] <;> cases c.num == 0 <;> rfl
      · intro hf
        have her : errS c.decl.value = 0 := by
          by_cases her : errS c.decl.value = 0
          · exact her
          · rw [if_neg her] at hf
            have her' := beq_eq_false_iff_ne.2 her
            simp only [her'] at hf
            revert hf
            cases c.list.isEmpty <;> cases c.name == [] <;> cases c.num == 0 <;> intro h <;> cases h
        have hl : c.list = [] := by
          cases hle : c.list.isEmpty with
          | true => exact List.isEmpty_iff.1 hle
          | false => rw [hle] at hf; cases hf
        have h1 := deepL_le c.decl.value
        rw [if_pos her, hdp]
        rw [hl] at he
        simp only [w64_nat (show deepL c.decl.value ≤ big by omega)]
        refine ⟨by rw [Nat.add_comm], ?_⟩
        rw [he]; rfl
    | false =>
      rw [h7] at hs hdp
      simp only [cond_false] at hs hdp ⊢
      cases h8 : c.kind == 8 with
      | true =>
        rw [h8] at hs hdp
        simp only [cond_true] at hs hdp ⊢
        simp only [bindO, Option.bind_some, isEmpty_len, condO_some, cond_bare_eq]
        refine ⟨_, rfl, fin _ _ _ ?_ ?_⟩
        · rw [hs]
          cases hle : c.list.isEmpty with
          | false => rfl
          | true =>
            have hl : c.list = [] := List.isEmpty_iff.1 hle
            rw [hl] at he
            have e2 : decide (m + sizC c ≤ 1500) = true := decide_eq_true (by rw [he]; simp; omega)
            rw [e2]
            cases bareC c <;> rfl
        · intro hf
          have hl : c.list = [] := by
            cases hle : c.list.isEmpty with
            | true => exact List.isEmpty_iff.1 hle
            | false => rw [hle] at hf; cases hf
          rw [hl] at he
          rw [hdp, he]
          exact ⟨rfl, rfl⟩
      | false =>
        rw [h8] at hs hdp
        simp only [cond_false] at hs hdp ⊢
        have hj : ∀ {R : Type} (k : Bool → Option R), joinK (X := Bool) (bif c.kind == 3 then some (LX.out (c.kind == 3)) else bif c.kind == 1 then some (LX.out (c.kind == 1)) else some (LX.out (c.kind == 2))) k = k (c.kind == 3 || (c.kind == 1 || c.kind == 2)) := by
          intro R k
          cases c.kind == 3 <;> cases c.kind == 1 <;> rfl
        rw [hj]
        cases hk : (c.kind == 3 || (c.kind == 1 || c.kind == 2)) with
        | false =>
          rw [hk] at hs
          exact ⟨_, rfl, fin _ _ _ (by rw [hs]; rfl) (fun h => by cases h)⟩
        | true =>
          rw [hk] at hs
          simp only [cond_true, Bool.true_and] at hs ⊢
          have hg : (bif bif !bareC c then true else bif c.kind == 3 then (c.list.length : Int) != 1 else false then true else bif c.kind != 3 then decide ((c.list.length : Int) < 2) else false) = !(bareC c && (bif c.kind == 3 then c.list.length == 1 else decide (2 ≤ c.list.length))) := by
            rw [lt_two, bne, bne, len_one']
            cases bareC c <;> cases c.kind == 3 <;> cases c.list.length == 1 <;> rfl
          simp only [cond_bare_eq, bindO, Option.bind_some, hg]
          cases hb : (bareC c && (bif c.kind == 3 then c.list.length == 1 else decide (2 ≤ c.list.length))) with
          | false =>
            rw [← Bool.and_assoc, hb] at hs
            exact ⟨_, rfl, fin _ _ _ (by rw [hs]; rfl) (fun h => by cases h)⟩
          | true =>
            rw [← Bool.and_assoc, hb, Bool.true_and] at hs
            simp only [Bool.not_true, cond_false]
            refine loop_rel (A := Nat × Nat) c.list.length (fun i a => (((a.1 : Int), (i : Int)), (a.2 : Int))) (fun i a => a.2 = m + 1 + ((c.list.take i).map sizC).sum ∧ a.2 ≤ 1500 ∧ a.1 = mx stepC (c.list.take i) ∧ (c.list.take i).all supC = true) _ (a0 := (0, m + 1)) rfl ⟨by simp, by show m + 1 ≤ 1500; omega, by simp [mx], by simp⟩ (fun i a hi hI => ?_) (fun a hI => .inl ?_)
            · obtain ⟨i1, i2, i3, i4⟩ := hI
              have ht := sum_take_le sizC c.list (i + 1)
              rw [sum_take sizC hi] at ht
              have hmm := zCond_mem (List.getElem_mem hi)
              obtain ⟨y, hy1, hy2⟩ := hS (c.list[i], (a.2 : Int)) ⟨by show bCells (enc_VCond c.list[i]) ≤ big; omega, a.2, rfl, i2⟩ hmm
              obtain ⟨hy3, hy4⟩ := hy2 a.2 rfl
              have hy3 : y.1.2 = (supC c.list[i] && decide (a.2 + sizC c.list[i] ≤ 1500)) := hy3
              simp only [lt_true hi, cond_true, geti_eq hi, Option.bind_some, eta_Cond, hy1]
              cases hf : y.1.2 with
              | false =>
                refine .inr (.inl ⟨_, rfl, fin _ _ _ ?_ (fun h => by cases h)⟩)
                rw [hf] at hy3
                cases hsi : supC c.list[i] with
                | false => rw [hs, all_get hi hsi]; rfl
                | true =>
                  rw [hsi, Bool.true_and] at hy3
                  have := of_decide_eq_false hy3.symm
                  have e2 : decide (m + sizC c ≤ 1500) = false := decide_eq_false (by omega)
                  rw [e2, Bool.and_false]
              | true =>
                obtain ⟨hy5, hy6⟩ := hy4 hf
                rw [hf] at hy3
                have hy3 := hy3.symm
                rw [Bool.and_eq_true] at hy3
                have hle := of_decide_eq_true hy3.2
                have hdl := deepC_le c.list[i]
                have hy5 : y.1.1 = (deepC c.list[i] : Int) := hy5
                have hy6 : y.2 = ((a.2 + sizC c.list[i] : Nat) : Int) := hy6
                refine .inl ⟨(max a.1 (stepC c.list[i]), a.2 + sizC c.list[i]), ?_, ?_, hle, ?_, ?_⟩
                · have hst : stepC c.list[i] = (bif leafC c.list[i] then 0 else 1) + deepC c.list[i] := rfl
                  have hw2 := w64_nat (n := deepC c.list[i]) (by omega)
                  simp only [Bool.not_true, cond_false, cond_leaf_eq, Option.bind_some, hy5, hy6, hw2, w64_succ hi (show c.list.length ≤ big by omega)]
                  cases hlf : leafC c.list[i] with
                  | true =>
                    rw [hlf] at hst
                    rw [cond_true, Nat.zero_add] at hst
                    simp only [Bool.not_true, cond_false, joinK_out, hst, max_if]
                  | false =>
                    rw [hlf] at hst
                    rw [cond_false, Nat.add_comm] at hst
                    simp only [Bool.not_false, cond_true, joinK_out, hst, max_if]
                · rw [sum_take sizC hi, i1]; show _ + _ + _ + _ = _; omega
                · rw [mx_take stepC hi, i3]
                · rw [all_take supC hi, i4, hy3.1]; rfl
            · rw [List.take_length] at hI
              obtain ⟨i1, i2, i3, i4⟩ := hI
              refine ⟨((a.1 : Int), (a.2 : Int)), ?_, _, rfl, fin _ _ _ ?_ (fun _ => ⟨?_, ?_⟩)⟩
              · simp only [lt_self, cond_false]
              · have e2 : decide (m + sizC c ≤ 1500) = true := decide_eq_true (by omega)
                rw [hs, i4, e2]; rfl
              · rw [hdp, i3]
              · show (a.2 : Int) = _
                rw [i1, he]; congr 1; omega
  obtain ⟨y, h1, h2⟩ := key
  exact ⟨y, h1, h2 m rfl⟩

def supportC (c : VCond) : Bool := supC c && (decide (sizC c ≤ 1500) && decide (deepC c ≤ 16))
theorem cond_CheckSupports_eq {c : VCond} (h : bCells (enc_VCond c) ≤ big) : cond_CheckSupports c = some (bif supportC c then 0 else 8) := by
  obtain ⟨y, h1, h2, h3⟩ := cond_look_rel (m := 0) h (by omega)
  unfold cond_CheckSupports supportC
  replace h1 : cond_look (c, 0) = some y := h1
  simp only [eta_Cond, h1, bindO, Option.bind_some]
  rw [Nat.zero_add] at h2
  cases hf : y.1.2 with
  | false =>
    rw [hf] at h2
    rw [← Bool.and_assoc, ← h2]; rfl
  | true =>
    have e : decide ((deepC c : Int) > 16) = !decide (deepC c ≤ 16) := gt_not _ 16
    rw [(h3 hf).1, e]
    rw [hf] at h2
    rw [← Bool.and_assoc, ← h2]
    cases decide (deepC c ≤ 16) <;> rfl
theorem ref10_Supportive_eq {c : VCond} (h : bCells (enc_VCond c) ≤ big) : ref10_Supportive c = some (supportC c) := by
  obtain ⟨r, h1, h2, h3, h4⟩ := ref10_Size_rel (m := 1500) h (by unfold big; omega)
  replace h1 : ref10_Size (c, 1500) = some (r : Int) := h1
  have e : decide ((deepC c : Int) ≤ 16) = decide (deepC c ≤ 16) := le_not _ 16
  have e2 : decide ((r : Int) ≤ 1500) = decide (sizC c ≤ 1500) := by
    by_cases hs : sizC c ≤ 1500
    · rw [decide_eq_true hs, h3 hs, decide_eq_true (by omega)]
    · have := h4 (by omega)
      rw [decide_eq_false hs, decide_eq_false (by omega)]
  unfold ref10_Supportive supportC
  simp only [eta_Cond, h1, bindO, Option.bind_some, ref10_Deep_eq h, ref10_supported_eq h, condO_some, e2]
  cases decide (sizC c ≤ 1500) with
  | false => simp
  | true => simp only [cond_true, e]; cases decide (deepC c ≤ 16) <;> cases supC c <;> rfl

end Go.Lv.VT

namespace Go.Lv.VT
def GoesOn {A S X R : Type} (k : X → Option R) (st : Nat → A → S) (Q : R → Prop) (i : Nat) : LO S X R → Prop
  | .again s => ∃ a', s = st (i + 1) a'
  | .ret r => Q r
  | .out x => ∃ r, k x = some r ∧ Q r
def Ends {S X R : Type} (k : X → Option R) (Q : R → Prop) : LO S X R → Prop
  | .again _ => False
  | .ret r => Q r
  | .out x => ∃ r, k x = some r ∧ Q r
theorem loop_ex {A S X R : Type} {step : S → Option (LO S X R)} {k : X → Option R} (n : Nat) (st : Nat → A → S) (Q : R → Prop) {s0 : S} {a0 : A} (h0 : s0 = st 0 a0)
    (hg : ∀ (i : Nat) (a : A), i < n → ∃ o, step (st i a) = some o ∧ GoesOn k st Q i o) (hf : ∀ a, ∃ o, step (st n a) = some o ∧ Ends k Q o) : ∃ r, loopK step s0 k = some r ∧ Q r := by
  refine loop_rel n st (fun _ _ => True) Q h0 trivial (fun i a hi _ => ?_) (fun a _ => ?_)
  · obtain ⟨o, h1, h2⟩ := hg i a hi
    cases o with
    | again s => obtain ⟨a', rfl⟩ := h2; exact .inl ⟨a', h1, trivial⟩
    | ret r => exact .inr (.inl ⟨r, h1, h2⟩)
    | out x => exact .inr (.inr ⟨x, h1, h2⟩)
  · obtain ⟨o, h1, h2⟩ := hf a
    cases o with
    | again s => exact h2.elim
    | ret r => exact .inr ⟨r, h1, h2⟩
    | out x => exact .inl ⟨x, h1, h2⟩

theorem ref04_Size_ex {l : List VValue} {m : Int} (h : szL l ≤ big) : ∃ r, ref04_Size (l, m) = some r := by
  have : ∃ r, ref04_Size (l, m) = some r ∧ True := by
    refine recE_rel mono_ref04_Size (fun x => szL x.1) (fun x => szL x.1 ≤ big) (fun _ _ => True) (fun S x hx hS => ?_) (x := (l, m)) h
    obtain ⟨l, m⟩ := x
    have hx : szL l ≤ big := hx
    have hlen := szL_len l
    unfold ref04_Size_B
    refine loop_ex (A := Int) l.length (fun i a => (a, (i : Int))) _ (a0 := 0) rfl (fun i a hi => ?_) (fun a => ?_)
    · have hsz := szL_mem (List.getElem_mem hi)
      have hv := szV_eq l[i]
      cases ha : decide (a ≤ m) with
      | false => simp only [lt_true hi, cond_true, cond_false, ha]; exact ⟨_, rfl, _, rfl, trivial⟩
      | true =>
        obtain ⟨r, hr, _⟩ := hS (l[i].list, w64 (m - a)) (by show szL l[i].list ≤ big; omega) (by show szL l[i].list < szL l; omega)
        simp only [lt_true hi, cond_true, ha, geti_eq hi, bindO, Option.bind_some, hr, w64_succ hi (show l.length ≤ big by omega)]
        exact ⟨_, rfl, _, rfl⟩
    · simp only [lt_self, cond_false]; exact ⟨_, rfl, _, rfl, trivial⟩
  obtain ⟨r, hr, _⟩ := this
  exact ⟨r, hr⟩

end Go.Lv.VT

namespace Go.Lv.VT
theorem loop_fold {α A S X R : Type} {step : S → Option (LO S X R)} {k : X → Option R} (l : List α) (f : A → α → A) (st : A → Nat → S) (out : A → X) {s0 : S} {a0 : A} (h0 : s0 = st a0 0)
    (hg : ∀ (i : Nat) (a : A) (h : i < l.length), step (st a i) = some (.again (st (f a l[i]) (i + 1))))
    (hf : ∀ a : A, step (st a l.length) = some (.out (out a))) : loopK step s0 k = k (out (l.foldl f a0)) := by
  have key : ∀ (m : List α) (i : Nat) (a : A), l.drop i = m → i ≤ l.length → ∃ n, iterF step n (st a i) = some (.out (out (m.foldl f a))) := by
    intro m
    induction m with
    | nil =>
      intro i a hd hi
      have : i = l.length := by have := List.drop_eq_nil_iff.1 hd; omega
      subst this
      exact ⟨1, by simp only [iterF, hf, List.foldl_nil]⟩
    | cons v m ih =>
      intro i a hd hi
      have hlt : i < l.length := by
        rcases Nat.lt_or_ge i l.length with h | h
        · exact h
        · rw [List.drop_eq_nil_of_le h] at hd; cases hd
      have hv : l[i] = v := by
        have := List.drop_eq_getElem_cons hlt
        rw [hd] at this
        injection this with h1 _
        exact h1.symm
      have hs := hg i a hlt
      rw [hv] at hs
      obtain ⟨n, hn⟩ := ih (i + 1) (f a v) (by rw [List.drop_eq_getElem_cons hlt] at hd; injection hd) (by omega)
      refine ⟨n + 1, ?_⟩
      simp only [iterF, hs]
      rw [hn, List.foldl_cons]
  obtain ⟨n, hn⟩ := key l 0 a0 rfl (by omega)
  rw [h0, loopK_go (loopF_of hn)]
  rfl
end Go.Lv.VT

namespace Go.Lv.VT
end Go.Lv.VT

namespace Go.Lv.VT
end Go.Lv.VT
