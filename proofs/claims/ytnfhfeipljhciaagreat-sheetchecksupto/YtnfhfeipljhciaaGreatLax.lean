/- Declarations: the program's check, and the reference's. -/
import Derived.Test.YtnfhfeipljhciaaGreatLaw
import Derived.Test.YtnfhfeipljhciaaGreatMo
namespace Go.Lv.VT
theorem eta_Value (v : VValue) : (⟨v.token, v.list⟩ : VValue) = v := by cases v; rfl
def nameD (x : Str) : Bool := !(x == []) && (decide (x.length ≤ 64) && (noNul x && (bif List.isPrefixOf [45, 45] x then !(x == [45, 45]) else lowS x == x)))
theorem decl_named_eq {x : Str} (h : x.length ≤ big) : decl_named x = some (nameD x) := by
  have e : decide ((x.length : Int) > 64) = !decide (x.length ≤ 64) := gt_not _ 64
  have e1 : decide (Lib.indexByte x (0 : Int).toNat.toUInt8 ≥ 0) = !noNul x := idx_nul x
  have ec := beq_comm' x (lowS x)
  unfold decl_named nameD
  simp only [indexByte_eq, condO_some, bindO, Option.bind_some, hasPrefix_eq, prog_Lower h, e, ec]
  cases x == [] <;> cases decide (x.length ≤ 64) <;> try rfl
  simp only [cond_true, cond_false, Bool.not_true, Bool.not_false, Bool.true_and, Bool.or_false, e1]
  cases noNul x <;> cases List.isPrefixOf [45, 45] x <;> rfl
theorem pre_take (x : Str) : (bif decide ((x.length : Int) ≥ 2) then List.take 2 x == [45, 45] else false) = List.isPrefixOf [45, 45] x := by
  cases x with
  | nil => rfl
  | cons a x =>
    cases x with
    | nil => show (bif decide _ then _ else _) = ((45 == a) && false); rw [Bool.and_false]; rfl
    | cons b x =>
      have : decide ((((a :: b :: x : Str)).length : Int) ≥ 2) = true := decide_eq_true (by simp only [List.length_cons]; omega)
      rw [this]
      show ((a == 45) && ((b == 45) && true)) = ((45 == a) && ((45 == b) && true))
      rw [Bool.beq_comm (a := a), Bool.beq_comm (a := b)]
theorem pre_len {x : Str} (h : List.isPrefixOf [45, 45] x = true) : decide ((x.length : Int) > 2) = !(x == [45, 45]) := by
  obtain ⟨t, rfl⟩ := List.isPrefixOf_iff_prefix.1 h
  cases t with
  | nil => rfl
  | cons a t =>
    have : decide ((([45, 45] ++ a :: t : Str).length : Int) > 2) = true := decide_eq_true (by simp only [List.length_append, List.length_cons]; omega)
    rw [this]; rfl
theorem ref05_Named_eq {x : Str} (h : x.length ≤ big) : ref05_Named x = some (nameD x) := by
  have e : decide ((x.length : Int) > 64) = !decide (x.length ≤ 64) := gt_not _ 64
  have en : decide ((x.length : Int) < 1) = (x == []) := by cases x with
    | nil => rfl
    | cons a x => exact decide_eq_false (by simp only [List.length_cons]; omega)
  have ec := beq_comm' x (lowS x)
  have hk : (need (decide ((2 : Int) ≤ (x.length : Int)) || !(decide ((x.length : Int) ≥ 2))) <|
      bif bif decide ((x.length : Int) ≥ 2) then List.take 2 x == [45, 45] else false then some (decide ((x.length : Int) > 2)) else bindO (ref01_Lower x) fun y4 => some (x == y4)) = some (bif List.isPrefixOf [45, 45] x then !(x == [45, 45]) else lowS x == x) := by
    have e2 : (decide ((2 : Int) ≤ (x.length : Int)) || !(decide ((x.length : Int) ≥ 2))) = true := by
      show (decide _ || !decide ((2 : Int) ≤ _)) = true
      cases decide ((2 : Int) ≤ (x.length : Int)) <;> rfl
    rw [e2, need_true, pre_take]
    cases hp : List.isPrefixOf [45, 45] x with
    | true => rw [cond_true, cond_true, pre_len hp]
    | false => simp only [cond_false, ref_Lower h, bindO, Option.bind_some, ec]
  unfold ref05_Named nameD
  rw [hk]
  have hl : ∀ b : Bool, loopK (fun (s1 : Int) => bif decide (s1 < (x.length : Int)) then
        bindO (geti x s1) fun y2 => bif (y2.toNat : Int) == 0 then some (LO.ret false) else some (LO.again (w64 (s1 + 1)))
      else some (LO.out ()) : Int → Option (LO (Int) (Unit) _)) 0 (fun _ => some b) = some (noNul x && b) := by
    intro b
    refine (loopK_find x (fun b => bif (!(b == 0)) then none else some false) () (fun i hi => ?_) ?_).trans ?_
    · simp only [lt_true hi, cond_true, geti_eq hi, bindO, Option.bind_some, byte_zero, w64_succ hi h]
      cases x[i] == 0 <;> rfl
    · simp only [lt_self, cond_false]
    · rw [find_all]
      unfold noNul
      cases x.all (fun b => !(b == 0)) <;> rfl
  rw [hl, e, en]
  cases x == [] <;> cases decide (x.length ≤ 64) <;> rfl

def clK (v : VValue) : Bool := v.token.kind == 20 || (v.token.kind == 22 || v.token.kind == 24)
mutual
def clV : VValue → Bool
  | ⟨t, l⟩ => clK ⟨t, l⟩ || clL l
def clL : List VValue → Bool
  | [] => false
  | v :: r => clV v || clL r
end
theorem clV_eq (v : VValue) : clV v = (clK v || clL v.list) := by obtain ⟨t, l⟩ := v; rw [clV]
theorem clL_any (l : List VValue) : clL l = l.any clV := by
  induction l with
  | nil => rw [clL]; rfl
  | cons v l ih => rw [clL, ih]; rfl
theorem decl_closers_eq {l : List VValue} (h : szL l ≤ big) : decl_closers l = some (clL l) := by
  refine recE_meas (fun l => szL l) (fun l => szL l ≤ big) (fun l => clL l) (fun S l hl hS => ?_) h
  have hlen := szL_len l
  unfold decl_closers_B slices_ContainsFunc_Value slices_IndexFunc_Value
  have := fold_any (loop_idx (step := fun (s1 : Int) =>
      bif decide (s1 < (l.length : Int)) then
        bindO (geti l s1) fun y2 =>
        bindO (decl_closers_1 S (⟨y2.token, y2.list⟩ : VValue)) fun y3 =>
        bif y3 then some (LO.ret s1) else some (LO.again (w64 (s1 + 1)))
      else some (LO.out ())) l clV (by omega) (fun i hi => ?_) ?_) (idxS_any _ _)
  · rw [this, clL_any]; rfl
  · have hsz := szL_mem (List.getElem_mem hi)
    have hv2 := szV_eq l[i]
    have hs := hS l[i].list (by omega) (by omega)
    have : decl_closers_1 S l[i] = some (clV l[i]) := by
      unfold decl_closers_1 decl_is
      simp only [eta_Value, condO_some, bindO, Option.bind_some, hs, clV_eq, clK]
      cases l[i].token.kind == 20 <;> cases l[i].token.kind == 22 <;> cases l[i].token.kind == 24 <;> rfl
    simp only [lt_true hi, cond_true, geti_eq hi, bindO, Option.bind_some, eta_Value, this]
  · simp only [lt_self, cond_false]
theorem ref05_closers_eq {l : List VValue} (h : szL l ≤ big) : ref05_closers l = some (clL l) := by
  refine recE_meas (fun l => szL l) (fun l => szL l ≤ big) (fun l => clL l) (fun S l hl hS => ?_) h
  have hlen := szL_len l
  unfold ref05_closers_B
  refine (loopK_find l (fun v => bif clV v then some true else none) () (fun i hi => ?_) ?_).trans ?_
  · have hsz := szL_mem (List.getElem_mem hi)
    have hv2 := szV_eq l[i]
    have hs := hS l[i].list (by omega) (by omega)
    simp only [lt_true hi, cond_true, geti_eq hi, bindO, Option.bind_some, clV_eq, clK, w64_succ hi (show l.length ≤ big by omega)]
    cases h1 : l[i].token.kind == 20 <;> cases h2 : l[i].token.kind == 22 <;> cases h3 : l[i].token.kind == 24 <;>
      first | rfl | (simp only [cond_false, Bool.not_false, condO_true, Option.bind_some, hs, Bool.false_or]; cases clL l[i].list <;> rfl)
  · simp only [lt_self, cond_false]
  · rw [find_any, clL_any]
    cases l.any clV <;> rfl

def endsS (l : List VValue) : Bool := match l with
  | [] => false
  | v :: r => isSp v || isSp ((v :: r).getLast (by simp))
theorem endsS_snoc (t : List VValue) (v : VValue) : endsS (t ++ [v]) = ((match t with | [] => isSp v | a :: _ => isSp a) || isSp v) := by
  cases t with
  | nil => rfl
  | cons a t =>
    show (isSp a || isSp ((a :: (t ++ [v])).getLast _)) = _
    congr 2
    have : (a :: (t ++ [v])) = (a :: t) ++ [v] := rfl
    simp only [this, List.getLast_append_of_ne_nil, List.getLast_singleton, ne_eq, reduceCtorEq, not_false_eq_true]
theorem trimB_len (l : List VValue) : (trimB l).length ≤ l.length := (trimB_sub l).length_le
theorem trimS_ends (l : List VValue) : ((trimS l).length == l.length) = !endsS l := by
  rcases nil_or_snoc l with rfl | ⟨t, v, rfl⟩
  · rfl
  · rw [endsS_snoc]
    have hl : (t ++ [v]).length = t.length + 1 := by simp
    cases t with
    | nil =>
      show ((trimB (List.dropWhile isSp [v])).length == 1) = !(isSp v || isSp v)
      cases hv : isSp v with
      | true => simp only [List.dropWhile_cons, hv]; rfl
      | false =>
        simp only [List.dropWhile_cons, hv]
        have := trimB_snoc [] v
        rw [hv] at this
        show ((trimB [v]).length == 1) = true
        rw [show trimB [v] = [v] from this]; rfl
    | cons a t =>
      show ((trimB (List.dropWhile isSp (a :: (t ++ [v])))).length == _) = !(isSp a || isSp v)
      have hb := trimB_len (List.dropWhile isSp (a :: (t ++ [v])))
      cases ha : isSp a with
      | true =>
        simp only [List.dropWhile_cons, ha, if_true] at hb ⊢
        have hd := (List.dropWhile_sublist isSp (l := t ++ [v])).length_le
        rw [Bool.true_or, Bool.not_true, beq_eq_false_iff_ne]
        rw [hl, List.length_cons]
        rw [List.length_append, List.length_singleton] at hd
        omega
      | false =>
        have e : List.dropWhile isSp (a :: (t ++ [v])) = (a :: t) ++ [v] := by
          rw [List.dropWhile_cons, ha]; rfl
        rw [e, trimB_snoc]
        cases hv : isSp v with
        | true =>
          have := trimB_len (a :: t)
          rw [if_pos rfl, Bool.or_true, Bool.not_true, beq_eq_false_iff_ne, hl]
          omega
        | false => simp
theorem ends_prog {l : List VValue} (h : l.length ≤ big) (g : Bool) (hg : (l.isEmpty && g) = false) (k : Bool → Option Int) :
    (bindO (condO (decide ((l.length : Int) > 0) && !g) (geti l 0) (default : VValue)) fun y7 =>
      bindO (condO (decide ((l.length : Int) > 0) && !g) (decl_is ((⟨y7.token, y7.list⟩ : VValue), 13)) (default : Bool)) fun y8 =>
      bindO (condO (!y8 && (decide ((l.length : Int) > 0) && !g)) (geti l (w64 ((l.length : Int) - 1))) (default : VValue)) fun y9 =>
      bindO (condO (!y8 && (decide ((l.length : Int) > 0) && !g)) (decl_is ((⟨y9.token, y9.list⟩ : VValue), 13)) (default : Bool)) fun y10 =>
      k (bif decide ((l.length : Int) > 0) then bif y8 then true else y10 else false)) = (if g = true ∧ l ≠ [] then (k (bif decide ((l.length : Int) > 0) then bif (default : Bool) then true else (default : Bool) else false)) else k (endsS l)) := by
  cases l with
  | nil =>
    have : decide ((([] : List VValue).length : Int) > 0) = false := rfl
    simp only [this, Bool.false_and, condO_false, bindO, Option.bind_some, Bool.and_false, cond_false, ne_eq, not_true_eq_false, and_false, if_false, endsS]
  | cons v r =>
    have e1 : decide (((v :: r).length : Int) > 0) = true := decide_eq_true (by simp only [List.length_cons]; omega)
    have e2 : geti (v :: r) 0 = some v := rfl
    cases g with
    | true => simp only [e1, Bool.not_true, Bool.and_false, condO_false, bindO, Option.bind_some, cond_true, ne_eq, reduceCtorEq, not_false_eq_true, and_self, if_true]
    | false =>
      simp only [e1, Bool.not_false, Bool.and_true, condO_true, bindO, Option.bind_some, cond_true, e2, decl_is, false_and, if_false, reduceCtorEq]
      have e3 : w64 (((v :: r).length : Int) - 1) = (r.length : Int) := by
        rw [List.length_cons] at h ⊢
        rw [w64, wrap64_id (by omega) (by unfold big at h; omega)]; omega
      have e4 : geti (v :: r) (r.length : Int) = some ((v :: r).getLast (by simp)) := by
        rw [geti_eq (by simp), List.getLast_eq_getElem]
        simp
      rw [e3, e4]
      simp only [condO_some, Option.bind_some, endsS, isSp]
      cases v.token.kind == 13 <;> rfl

def badV (v : VValue) : Bool := v.token.kind == 17 || (v.token.kind == 9 && v.token.text == [33])
def bodyS (custom : Bool) (l : List VValue) : Bool := !(l.any badV) && (!(l.isEmpty && !custom) && !endsS l)
def declS (d : VDecl) : Bool := nameD d.name && (errS d.value == 0 && (gluS (tokL d.value) == 0 && (!clL d.value && bodyS (List.isPrefixOf [45, 45] d.name) d.value)))

mutual
theorem tokV_mem : ∀ (v : VValue) (t : VToken), t ∈ tokV v → t.text.length ≤ szV v ∧ t.unit.length ≤ szV v
  | ⟨t, l⟩, u, h => by
    rw [tokV] at h
    rw [szV]
    rcases List.mem_cons.1 h with rfl | h
    · constructor <;> omega
    · split at h
      · cases h
      · rcases List.mem_append.1 h with h | h
        · have := tokL_mem l u h; omega
        · obtain rfl := List.mem_singleton.1 h
          exact ⟨Nat.zero_le _, Nat.zero_le _⟩
theorem tokL_mem : ∀ (l : List VValue) (t : VToken), t ∈ tokL l → t.text.length ≤ szL l ∧ t.unit.length ≤ szL l
  | [], _, h => by rw [tokL] at h; cases h
  | v :: r, u, h => by
    rw [tokL] at h
    rw [szL]
    rcases List.mem_append.1 h with h | h
    · have := tokV_mem v u h; omega
    · have := tokL_mem r u h; omega
end
theorem glu_prog {l : List VValue} (h : szL l ≤ big) : glue_Check (tokL l) = some (gluS (tokL l)) :=
  glue_Check_eq fun t ht => by have := tokL_mem l t ht; omega
theorem glu_ref {l : List VValue} (h : szL l ≤ big) : ref03_Check (tokL l) = some (gluS (tokL l)) :=
  ref03_Check_eq fun t ht => by have := tokL_mem l t ht; omega

theorem any_bad_prog {l : List VValue} (h : l.length ≤ big) : slices_ContainsFunc_Value_2 l = some (l.any badV) := by
  unfold slices_ContainsFunc_Value_2 slices_IndexFunc_Value_2
  refine fold_any (loop_idx l badV h (fun i hi => ?_) ?_) (idxS_any _ _)
  · have : decl_Check_1 l[i] = some (badV l[i]) := by
      unfold decl_Check_1 decl_bang decl_is badV
      simp only [eta_Value, condO_some, bindO, Option.bind_some]
      cases l[i].token.kind == 17 <;> cases l[i].token.kind == 9 <;> rfl
    simp only [lt_true hi, cond_true, geti_eq hi, bindO, Option.bind_some, eta_Value, this]
  · simp only [lt_self, cond_false]

theorem decl_Check_eq {d : VDecl} (h : bCells (enc_VDecl d) ≤ big) : decl_Check d = some (bif declS d then 0 else 8) := by
  have hz := zDecl_eq d
  have hs := szL_zL d.value
  have hv : szL d.value ≤ big := by omega
  have hlen := szL_len d.value
  have hn : d.name.length ≤ big := by omega
  unfold decl_Check declS
  rw [nest_Flat_eq hv]
  simp only [bindO, Option.bind_some, decl_named_eq hn]
  cases nameD d.name with
  | false => simp only [Bool.not_false, cond_true, Bool.not_true, condO_false, Option.bind_some, Bool.false_and, cond_false]
  | true =>
    by_cases he : errS d.value = 0
    · rw [if_pos he]
      have he' : (errS d.value == 0) = true := beq_iff_eq.2 he
      have this : ((0 : Int) == 0) = true := rfl
      simp only [he', this, Bool.not_true, cond_false, Bool.not_false, condO_true, glu_prog hv, Option.bind_some, Bool.true_and, bne]
      cases hg : gluS (tokL d.value) == 0 with
      | false => simp only [Bool.not_false, cond_true, Bool.not_true, condO_false, Option.bind_some, Bool.false_and, cond_false]
      | true =>
        simp only [Bool.not_true, cond_false, Bool.not_false, condO_true, decl_closers_eq hv, Option.bind_some, Bool.true_and]
        cases clL d.value with
        | true => rfl
        | false =>
          simp only [cond_false, any_bad_prog (show d.value.length ≤ big by omega), Option.bind_some, bodyS, Bool.not_false, Bool.true_and]
          cases d.value.any badV with
          | true => rfl
          | false =>
            simp only [cond_false, hasPrefix_eq, condO_some, Option.bind_some, isEmpty_len, Bool.not_false, Bool.true_and]
            have hp := ends_prog (l := d.value) (by omega) (bif d.value.isEmpty then !(bif d.value.isEmpty then List.isPrefixOf [45, 45] d.name else default) else false)
            cases hd : d.value with
            | nil =>
              cases List.isPrefixOf [45, 45] d.name <;> rfl
            | cons v r =>
              have hp' := hp (by rw [hd]; rfl) (fun b => bif b then some 8 else some 0)
              rw [hd] at hp'
              simp only [List.isEmpty_cons, cond_false, Bool.false_eq_true, false_and, if_false] at hp'
              simp only [List.isEmpty_cons, cond_false, Bool.false_and, Bool.not_false, Bool.true_and]
              refine Eq.trans hp' ?_
              cases endsS (v :: r) <;> rfl
    · rw [if_neg he]
      have he' : (errS d.value == 0) = false := beq_eq_false_iff_ne.2 he
      simp only [he', bne, Bool.not_true, cond_false, Bool.not_false, cond_true, condO_false, Option.bind_some, Bool.false_and, Bool.and_false]

theorem custom_eq {x : Str} (hn : nameD x = true) : ref05_Custom x = some (List.isPrefixOf [45, 45] x) := by
  unfold ref05_Custom
  have e2 : (decide ((2 : Int) ≤ (x.length : Int)) || !(decide ((x.length : Int) > 2))) = true := by
    by_cases h : 2 ≤ x.length
    · rw [decide_eq_true (show (2 : Int) ≤ (x.length : Int) by omega)]; rfl
    · rw [decide_eq_false (show ¬ ((x.length : Int) > 2) by omega)]; simp
  rw [need_of e2]
  have hp := pre_take x
  cases hpp : List.isPrefixOf [45, 45] x with
  | true =>
    rw [hpp] at hp
    have h3 := pre_len hpp
    unfold nameD at hn
    rw [hpp] at hn
    simp only [cond_true, Bool.and_eq_true] at hn
    rw [hn.2.2.2] at h3
    rw [h3]
    have : decide ((x.length : Int) ≥ 2) = true := decide_eq_true (by have := of_decide_eq_true h3; omega)
    rw [this] at hp
    exact congrArg some hp
  | false =>
    rw [hpp] at hp
    cases h3 : decide ((x.length : Int) > 2) with
    | false => rfl
    | true =>
      have : decide ((x.length : Int) ≥ 2) = true := decide_eq_true (by have := of_decide_eq_true h3; omega)
      rw [this] at hp
      exact congrArg some hp
theorem len_beq {α : Type} (a b : List α) : ((a.length : Int) == (b.length : Int)) = (a.length == b.length) := by
  rw [Bool.eq_iff_iff, beq_iff_eq, beq_iff_eq]; omega
theorem ref05_Valued_eq {x : Str} {l : List VValue} (h : szL l ≤ big) (hn : nameD x = true) :
    ref05_Valued (x, l) = some (errS l == 0 && (gluS (tokL l) == 0 && (!clL l && bodyS (List.isPrefixOf [45, 45] x) l))) := by
  have hlen := szL_len l
  unfold ref05_Valued
  simp only [ref_check h, ref_tokens h, bindO, Option.bind_some, bne, condO_some]
  cases he : errS l == 0 with
  | false => simp only [Bool.not_false, cond_true, Bool.not_true, condO_false, Option.bind_some, Bool.false_and, cond_false]
  | true =>
    simp only [Bool.not_true, cond_false, Bool.not_false, cond_true, condO_true, glu_ref h, Option.bind_some, Bool.true_and]
    cases hg : gluS (tokL l) == 0 with
    | false => simp only [Bool.not_false, cond_true, Bool.not_true, condO_false, Option.bind_some, Bool.false_and, cond_false]
    | true =>
      simp only [Bool.not_true, cond_false, Bool.not_false, condO_true, ref05_closers_eq h, Option.bind_some, Bool.true_and]
      cases clL l with
      | true => rfl
      | false =>
        simp only [cond_false, ref_trimmed h, Option.bind_some, len_beq, trimS_ends, isEmpty_len, Bool.not_not, Bool.not_false, Bool.true_and, custom_eq hn, condO_some]
        have hl : loopK (fun (s7 : Int) =>
          bif decide (s7 < (l.length : Int)) then
            bindO (geti l s7) fun y8 =>
            bif bif y8.token.kind == 17 then true else bif y8.token.kind == 9 then y8.token.text == [33] else false then
              some (LO.ret false)
            else
              some (LO.again (w64 (s7 + 1)))
          else
            some (LO.out ()) : Int → Option (LO (Int) (Unit) _)) 0 (fun _ => some true) = some (!(l.any badV)) := by
          refine (loopK_find l (fun v => bif badV v then some false else none) () (fun i hi => ?_) ?_).trans ?_
          · simp only [lt_true hi, cond_true, geti_eq hi, bindO, Option.bind_some, badV, w64_succ hi (show l.length ≤ big by omega)]
            cases l[i].token.kind == 17 <;> cases l[i].token.kind == 9 <;> cases l[i].token.text == [33] <;> rfl
          · simp only [lt_self, cond_false]
          · rw [find_any]
            cases l.any badV <;> rfl
        unfold bodyS
        simp only [bindO] at hl
        rw [hl]
        cases endsS l <;> cases l.isEmpty <;> cases List.isPrefixOf [45, 45] x <;> cases l.any badV <;> rfl
theorem ref05_Check_eq {d : VDecl} (h : bCells (enc_VDecl d) ≤ big) : ref05_Check d = some (bif declS d then 0 else 8) := by
  have hz := zDecl_eq d
  have hs := szL_zL d.value
  have hv : szL d.value ≤ big := by omega
  have hn : d.name.length ≤ big := by omega
  unfold ref05_Check declS
  simp only [ref05_Named_eq hn, bindO, Option.bind_some]
  cases hnd : nameD d.name with
  | false => rfl
  | true =>
    simp only [Bool.not_true, Bool.not_false, condO_true, ref05_Valued_eq hv hnd, Option.bind_some, Bool.true_and]
    cases (errS d.value == 0 && (gluS (tokL d.value) == 0 && (!clL d.value && bodyS (List.isPrefixOf [45, 45] d.name) d.value))) <;> rfl
end Go.Lv.VT

namespace Go.Lv.VT
theorem eta_Cond (c : VCond) : (⟨c.kind, c.name, c.num, c.decl, c.list⟩ : VCond) = c := by cases c; rfl
def plainD (d : VDecl) : Bool := d.name == [] && (d.value.isEmpty && !d.important)
def bareC (c : VCond) : Bool := c.name == [] && (c.num == 0 && plainD c.decl)
theorem cond_bare_eq (c : VCond) : cond_bare c = some (bareC c) := by
  unfold cond_bare bareC plainD
  rw [isEmpty_len]
  cases c.name == [] <;> cases c.num == 0 <;> cases c.decl.name == [] <;> cases c.decl.value.isEmpty <;> rfl
theorem ref10_plain_eq (d : VDecl) : ref10_plain d = some (plainD d) := by
  unfold ref10_plain plainD
  rw [isEmpty_len]
  cases d.name == [] <;> cases d.value.isEmpty <;> rfl
theorem ref10_listed_eq (c : VCond) : ref10_listed c = some (bareC c) := by
  unfold ref10_listed bareC
  simp only [ref10_plain_eq, condO_some, bindO, Option.bind_some]
  cases c.name == [] <;> cases c.num == 0 <;> rfl

def keyS (x : Str) : Bool := x == [] || (x == [97, 110, 100] || (x == [111, 114] || (x == [110, 111, 116] || x == [111, 110, 108, 121])))
def medS (x : Str) : Bool := !keyS x && (decide (x.length ≤ 64) && (lowS x == x && noNul x))
theorem contains_string_eq (l : List Str) (x : Str) (h : l.length ≤ big) : slices_Contains_string (l, x) = some (l.any fun v => x == v) := by
  unfold slices_Contains_string slices_Index_string
  refine fold_any (loop_idx l (fun v => x == v) h (fun i hi => ?_) ?_) (idxS_any _ _)
  · simp only [lt_true hi, cond_true, geti_eq hi, bindO, Option.bind_some]
  · simp only [lt_self, cond_false]
theorem key_any (x : Str) : (([[], [97, 110, 100], [111, 114], [110, 111, 116], [111, 110, 108, 121]] : List Str).any fun v => x == v) = keyS x := by
  simp only [List.any_cons, List.any_nil, Bool.or_false]
  rfl
theorem cond_medium_eq {x : Str} (h : x.length ≤ big) : cond_medium x = some (medS x) := by
  have e : decide ((x.length : Int) ≤ 64) = decide (x.length ≤ 64) := le_not _ 64
  have e1 : decide (Lib.indexByte x (0 : Int).toNat.toUInt8 < 0) = noNul x := by rw [neg_dec, idx_nul, Bool.not_not]
  have hcs := contains_string_eq [[], [97, 110, 100], [111, 114], [110, 111, 116], [111, 110, 108, 121]] x (by decide)
  unfold cond_medium medS
  simp only [hcs, key_any, prog_Lower h, indexByte_eq, condO_some, bindO, Option.bind_some, e]
  cases keyS x <;> cases decide (x.length ≤ 64) <;> try rfl
  simp only [Bool.not_false, cond_true, Bool.true_and]
  cases lowS x == x
  · rfl
  · exact congrArg some e1
theorem ref10_medium_eq {x : Str} (h : x.length ≤ big) : ref10_medium x = some (medS x) := by
  have e : decide ((x.length : Int) > 64) = !decide (x.length ≤ 64) := gt_not _ 64
  have ec := beq_comm' x (lowS x)
  unfold ref10_medium medS
  simp only [ref_Lower h, condO_some, bindO, Option.bind_some, e]
  have hl : loopK (fun (s1 : Int) => bif decide (s1 < (x.length : Int)) then
        (geti x s1).bind fun y2 => bif (y2.toNat : Int) == 0 then some (LO.ret false) else some (LO.again (w64 (s1 + 1)))
      else some (LO.out ()) : Int → Option (LO (Int) (Unit) _)) 0 (fun _ => some true) = some (noNul x) := by
    refine (loopK_find x (fun b => bif (!(b == 0)) then none else some false) () (fun i hi => ?_) ?_).trans ?_
    · simp only [lt_true hi, cond_true, geti_eq hi, Option.bind_some, byte_zero, w64_succ hi h]
      cases x[i] == 0 <;> rfl
    · simp only [lt_self, cond_false]
    · rw [find_all]
      unfold noNul
      cases x.all (fun b => !(b == 0)) <;> rfl
  rw [hl]
  unfold keyS
  cases x == [] <;> cases decide (x.length ≤ 64) <;> cases x == [97, 110, 100] <;> cases x == [111, 114] <;> cases x == [110, 111, 116] <;> cases x == [111, 110, 108, 121] <;>
    first | rfl | (simp only [cond_true, cond_false, Bool.or_false, Bool.not_false, Bool.not_true, Bool.true_and, ec]; cases lowS x == x <;> rfl)

def isN (n : Int) : Bool := decide (-1000000000000 ≤ n) && decide (n ≤ 1000000000000)
theorem ref06_Is_eq (n : Int) : ref06_Is n = some (isN n) := by
  unfold ref06_Is isN
  show some (bif decide (-1000000000000 ≤ n) then _ else _) = _
  cases decide (-1000000000000 ≤ n) <;> rfl
theorem fixed_Check_eq (n : Int) : fixed_Check n = some (bif isN n then 0 else 8) := by
  unfold fixed_Check fixed_check
  have e1 : decide (n < -1000000000000) = !decide (-1000000000000 ≤ n) := by
    have := ge_not n (-1000000000000)
    show _ = !decide (n ≥ _)
    rw [this, Bool.not_not]
  have e2 : decide (n > 1000000000000) = !decide (n ≤ 1000000000000) := by
    have := ge_not 1000000000000 n
    show decide (1000000000000 < n) = !decide (1000000000000 ≥ n)
    rw [this, Bool.not_not]
  have : loopK (fun (s1 : Int) =>
      bif decide (s1 < (([n] : List Int).length : Int)) then
        bindO (geti [n] s1) fun y2 =>
        bif bif decide (y2 < (-1000000000000)) then true else decide (y2 > 1000000000000) then
          some (LO.ret (8 : Int))
        else
          some (LO.again (w64 (s1 + 1)))
      else
        some (LO.out ()) : Int → Option (LO (Int) (Unit) Int)) 0 (fun o3 => some (0 : Int)) = some (bif isN n then 0 else 8) := by
    refine (loopK_find [n] (fun n => bif isN n then none else some 8) () (fun i hi => ?_) ?_).trans ?_
    · obtain rfl : i = 0 := by simpa using hi
      simp only [lt_true hi, cond_true, geti_eq hi, bindO, Option.bind_some, List.getElem_cons_zero, e1, e2, isN]
      cases decide (-1000000000000 ≤ n) <;> cases decide (n ≤ 1000000000000) <;> rfl
    · simp only [lt_self, cond_false]
    · rw [find_all]
      simp only [List.all_cons, List.all_nil, Bool.and_true]
      cases isN n <;> rfl
  rw [this]; rfl

def leafQ (first : Bool) (y : VCond) : Bool :=
  y.list.isEmpty && (plainD y.decl && ((first && (y.kind == 4 && (y.num == 0 && medS y.name))) || ((y.kind == 5 || y.kind == 6) && (y.name == [] && (decide (0 ≤ y.num) && isN y.num)))))
def leavesQ (l : List VCond) : Bool := (List.range l.length).all fun i => leafQ (i == 0) (l.getD i default)
def queryC (c : VCond) : Bool := c.kind == 1 && (bareC c && (!c.list.isEmpty && leavesQ c.list))
def namedC (c : VCond) : Bool := match c.list with
  | [] => false
  | y :: _ => y.kind == 4
theorem zero_beq (i : Nat) : ((i : Int) == 0) = (i == 0) := by rw [Bool.eq_iff_iff, beq_iff_eq, beq_iff_eq]; omega
theorem pos_beq (i : Nat) : decide ((i : Int) > 0) = !(i == 0) := by
  cases i with
  | zero => rfl
  | succ i => exact decide_eq_true (by omega)

theorem leaf_prog {c : VCond} (h : bCells (enc_VCond c) ≤ big) (i : Nat) (R : Type) (A : Option R) (k : Int → Option R) :
    (joinK (X := Int) (
              bindO (condO (!(decide ((c.list.length : Int) > 0))) (cond_bare (⟨c.kind, [], 0, c.decl, c.list⟩ : VCond)) (default : Bool)) fun y4 =>
              bif bif decide ((c.list.length : Int) > 0) then true else !y4 then
                A.map LX.ret
              else
                bif c.kind == 4 then
                  bindO (condO (!(bif decide ((i : Int) > 0) then true else c.num != 0)) (cond_medium c.name) (default : Bool)) fun y5 =>
                  bif bif bif decide ((i : Int) > 0) then true else c.num != 0 then true else !y5 then
                    A.map LX.ret
                  else
                    some (LX.out (i : Int))
                else
                  joinK (X := Bool) (
                      bif c.kind == 5 then
                        some (LX.out (c.kind == 5))
                      else
                        some (LX.out (c.kind == 6))) fun j6 =>
                  bif j6 then
                    bindO (condO (!(bif !(c.name == []) then true else decide (c.num < 0))) (fixed_Check c.num) (default : Int)) fun y7 =>
                    bif bif bif !(c.name == []) then true else decide (c.num < 0) then true else y7 != 0 then
                      A.map LX.ret
                    else
                      some (LX.out (i : Int))
                  else
                    A.map LX.ret) k) = bif leafQ (i == 0) c then k (i : Int) else A := by
  have hz := zCond_eq c
  have hn : c.name.length ≤ big := by have := zDecl_pos c.decl; omega
  have hA : joinK (A.map LX.ret) k = A := by cases A <;> rfl
  have e1 : decide (c.num < 0) = !decide (0 ≤ c.num) := by
    have := ge_not c.num 0
    show _ = !decide (c.num ≥ 0)
    rw [this, Bool.not_not]
  have e2 : ((bif isN c.num then (0 : Int) else 8) != 0) = !isN c.num := by cases isN c.num <;> rfl
  have eb : bareC ⟨c.kind, [], 0, c.decl, c.list⟩ = plainD c.decl := rfl
  unfold leafQ
  simp only [cond_bare_eq, eb, pos_len, condO_some, bindO, Option.bind_some, cond_medium_eq hn, fixed_Check_eq, pos_beq i, e1, bne]
  cases c.list.isEmpty with
  | false => exact hA
  | true =>
    cases plainD c.decl with
    | false => exact hA
    | true =>
      simp only [Bool.not_true, Bool.not_false, cond_true, cond_false, Bool.true_and]
      by_cases k4 : c.kind = 4
      · simp only [k4, Int.reduceBEq, cond_true, Bool.or_false, Bool.false_and, Bool.true_and]
        cases (i == 0) <;> cases c.num == 0 <;> cases medS c.name <;> first | rfl | exact hA
      · have b4 := beq_eq_false_iff_ne.2 k4
        simp only [b4, cond_false, Bool.false_and, Bool.and_false, Bool.false_or]
        by_cases k5 : c.kind = 5
        · simp only [k5, Int.reduceBEq, cond_true, joinK_out, Bool.true_or, Bool.true_and]
          cases c.name == [] <;> cases decide (0 ≤ c.num) <;> cases isN c.num <;> first | rfl | exact hA
        · have b5 := beq_eq_false_iff_ne.2 k5
          simp only [b5, cond_false, joinK_out, Bool.false_or]
          cases c.kind == 6
          · exact hA
          · cases c.name == [] <;> cases decide (0 ≤ c.num) <;> cases isN c.num <;> first | rfl | exact hA

theorem zCond_mem {c y : VCond} (h : y ∈ c.list) : bCells (enc_VCond y) < bCells (enc_VCond c) := by
  have hz := zCond_eq c
  have := zL_mem (f := enc_VCond) h
  have := zDecl_pos c.decl
  omega
theorem zCond_list (c : VCond) : c.list.length ≤ bCells (enc_VCond c) := by
  have hz := zCond_eq c
  have := zL_len zCond_pos c.list
  have := zDecl_pos c.decl
  omega
theorem zCond_decl (c : VCond) : bCells (enc_VDecl c.decl) ≤ bCells (enc_VCond c) := by
  have hz := zCond_eq c
  omega

theorem cond_query_eq {c : VCond} (h : bCells (enc_VCond c) ≤ big) : cond_query c = some (queryC c) := by
  have hlen := zCond_list c
  unfold cond_query queryC
  simp only [eta_Cond, cond_bare_eq, condO_some, bindO, Option.bind_some, isEmpty_len, bne]
  cases c.kind == 1 with
  | false => rfl
  | true =>
    cases bareC c with
    | false => rfl
    | true =>
      cases c.list.isEmpty with
      | true => rfl
      | false =>
        simp only [Bool.not_true, Bool.not_false, cond_true, cond_false, Bool.true_and]
        refine (loopK_while c.list.length (fun i => leafQ (i == 0) (c.list.getD i default)) false (fun i hi => ?_) ?_).trans ?_
        · have hm := zCond_mem (List.getElem_mem hi)
          have hgd : c.list.getD i default = c.list[i] := by simp [hi]
          have := leaf_prog (c := c.list[i]) (by omega) i (LO Int Unit Bool) (some (LO.ret false)) fun j => some (.again (w64 (j + 1)))
          simp only [cond_bare_eq, ref10_listed_eq, condO_some, bindO, Option.bind_some, bne, Option.map_some] at this
          simp only [lt_true hi, cond_true, geti_eq hi, Option.bind_some, hgd]
          refine this.trans ?_
          rw [w64_succ hi (by omega)]
          cases leafQ (i == 0) c.list[i] <;> rfl
        · simp only [lt_self, cond_false]
        · unfold leavesQ
          cases (List.range c.list.length).all fun i => leafQ (i == 0) (c.list.getD i default) <;> rfl

theorem leaf_ref {c : VCond} (h : bCells (enc_VCond c) ≤ big) (i : Nat) (R : Type) (A : Option R) (k : Int → Option R) :
    (joinK (X := Int) (
              bindO (condO (!(decide ((c.list.length : Int) > 0))) (ref10_plain c.decl) (default : Bool)) fun y4 =>
              bif bif decide ((c.list.length : Int) > 0) then true else !y4 then
                A.map LX.ret
              else
                bindO (condO (bif bif (i : Int) == 0 then c.kind == 4 else false then c.num == 0 else false) (ref10_medium c.name) (default : Bool)) fun y5 =>
                bif bif bif bif (i : Int) == 0 then c.kind == 4 else false then c.num == 0 else false then y5 else false then
                  some (LX.out (i : Int))
                else
                  bindO (condO (!(bif bif bif c.kind != 5 then c.kind != 6 else false then true else !(c.name == []) then true else decide (c.num < 0))) (ref06_Is c.num) (default : Bool)) fun y6 =>
                  bif bif bif bif bif c.kind != 5 then c.kind != 6 else false then true else !(c.name == []) then true else decide (c.num < 0) then true else !y6 then
                    A.map LX.ret
                  else
                    some (LX.out (i : Int))) k) = bif leafQ (i == 0) c then k (i : Int) else A := by
  have hz := zCond_eq c
  have hn : c.name.length ≤ big := by have := zDecl_pos c.decl; omega
  have hA : joinK (A.map LX.ret) k = A := by cases A <;> rfl
  have e1 : decide (c.num < 0) = !decide (0 ≤ c.num) := by
    have := ge_not c.num 0
    show _ = !decide (c.num ≥ 0)
    rw [this, Bool.not_not]
  unfold leafQ
  simp only [ref10_plain_eq, pos_len, condO_some, bindO, Option.bind_some, ref10_medium_eq hn, ref06_Is_eq, zero_beq i, e1, bne]
  cases c.list.isEmpty with
  | false => exact hA
  | true =>
    cases plainD c.decl with
    | false => exact hA
    | true =>
      simp only [Bool.not_true, Bool.not_false, cond_true, cond_false, Bool.true_and]
      by_cases k4 : c.kind = 4
      · simp only [k4, Int.reduceBEq, cond_true, Bool.or_false, Bool.false_and, Bool.true_and, Bool.not_false, Bool.or_self]
        cases (i == 0) <;> cases c.num == 0 <;> cases medS c.name <;> first | rfl | exact hA
      · have b4 := beq_eq_false_iff_ne.2 k4
        have hc : (bif bif (i == 0) then false else false then c.num == 0 else false) = false := by cases (i == 0) <;> rfl
        simp only [b4, hc, cond_false, Bool.false_and, Bool.and_false, Bool.false_or]
        cases c.kind == 5 <;> cases c.kind == 6 <;> cases c.name == [] <;> cases decide (0 ≤ c.num) <;> cases isN c.num <;> first | rfl | exact hA

theorem ref10_all_eq {c : VCond} (h : bCells (enc_VCond c) ≤ big) : ref10_all c = some (queryC c, queryC c && namedC c) := by
  have hlen := zCond_list c
  unfold ref10_all queryC
  simp only [eta_Cond, ref10_listed_eq, condO_some, bindO, Option.bind_some, isEmpty_len, bne]
  cases c.kind == 1 with
  | false => rfl
  | true =>
    cases bareC c with
    | false => rfl
    | true =>
      cases he : c.list.isEmpty with
      | true => rfl
      | false =>
        simp only [Bool.not_true, Bool.not_false, cond_true, cond_false, Bool.true_and]
        refine (loopK_while c.list.length (fun i => leafQ (i == 0) (c.list.getD i default)) (false, false) (fun i hi => ?_) ?_).trans ?_
        · have hm := zCond_mem (List.getElem_mem hi)
          have hgd : c.list.getD i default = c.list[i] := by simp [hi]
          have := leaf_ref (c := c.list[i]) (by omega) i (LO Int Unit (Bool × Bool)) (some (LO.ret (false, false))) fun j => some (.again (w64 (j + 1)))
          simp only [cond_bare_eq, ref10_listed_eq, condO_some, bindO, Option.bind_some, bne, Option.map_some] at this
          simp only [lt_true hi, cond_true, geti_eq hi, Option.bind_some, hgd]
          refine this.trans ?_
          rw [w64_succ hi (by omega)]
          cases leafQ (i == 0) c.list[i] <;> rfl
        · simp only [lt_self, cond_false]
        · unfold leavesQ namedC
          cases hl : c.list with
          | nil => rw [hl] at he; cases he
          | cons y r =>
            have : geti (y :: r) 0 = some y := rfl
            simp only [this, Option.bind_some]
            cases (List.range (y :: r).length).all fun i => leafQ (i == 0) ((y :: r).getD i default) <;> rfl

theorem cond_named_eq (c : VCond) : cond_named c = some (namedC c) := by
  unfold cond_named namedC
  cases c.list with
  | nil => rfl
  | cons y r =>
    have e1 : decide (((y :: r).length : Int) > 0) = true := decide_eq_true (by simp only [List.length_cons]; omega)
    have e2 : geti (y :: r) 0 = some y := rfl
    simp only [e1, e2, condO_true, bindO, Option.bind_some, cond_true]
def asksC (c : VCond) : Bool := bif c.kind == 3 then bareC c && (match c.list with
  | [y] => queryC y && namedC y
  | _ => false) else queryC c
theorem len_one {α : Type} (y z : α) (r : List α) : (((y :: z :: r).length : Int) == 1) = false := beq_eq_false_iff_ne.2 (by simp only [List.length_cons]; omega)
theorem cond_asks_eq {c : VCond} (h : bCells (enc_VCond c) ≤ big) : cond_asks c = some (asksC c) := by
  unfold cond_asks asksC
  simp only [eta_Cond, cond_bare_eq, bindO, Option.bind_some, cond_query_eq h, cond_named_eq]
  cases c.kind == 3 with
  | false => rfl
  | true =>
    simp only [cond_true]
    cases bareC c with
    | false => rfl
    | true =>
      cases hl : c.list with
      | nil => rfl
      | cons y r =>
        cases r with
        | nil =>
          have hm := zCond_mem (c := c) (y := y) (by rw [hl]; exact List.mem_cons_self)
          have e2 : geti [y] 0 = some y := rfl
          have e3 : (([y] : List VCond).length : Int) == 1 := rfl
          simp only [e2, e3, cond_true, condO_true, Option.bind_some, cond_query_eq (show bCells (enc_VCond y) ≤ big by omega), Bool.true_and]
          cases queryC y
          · rfl
          · simp only [condO_true, Option.bind_some, cond_true, Bool.true_and]
        | cons z r =>
          simp only [len_one, cond_true, condO_false, Option.bind_some, cond_false, Bool.and_false]
theorem ref10_query_eq {c : VCond} (h : bCells (enc_VCond c) ≤ big) : ref10_query c = some (asksC c) := by
  unfold ref10_query asksC
  simp only [eta_Cond, ref10_listed_eq, bindO, Option.bind_some, ref10_all_eq h, bne]
  cases c.kind == 3 with
  | false => rfl
  | true =>
    simp only [cond_true]
    cases bareC c with
    | false => rfl
    | true =>
      cases hl : c.list with
      | nil => rfl
      | cons y r =>
        cases r with
        | nil =>
          have hm := zCond_mem (c := c) (y := y) (by rw [hl]; exact List.mem_cons_self)
          have e2 : geti [y] 0 = some y := rfl
          have e3 : (([y] : List VCond).length : Int) == 1 := rfl
          simp only [e2, e3, cond_false, Bool.not_true, Option.bind_some, ref10_all_eq (show bCells (enc_VCond y) ≤ big by omega), Bool.true_and]
          cases queryC y <;> cases namedC y <;> rfl
        | cons z r =>
          simp only [len_one, Bool.not_true, Bool.not_false, cond_false, cond_true, Bool.and_false]

def medialC (c : VCond) : Bool := bareC c && ((c.kind == 1 && c.list.isEmpty) || (c.kind == 2 && (!c.list.isEmpty && (decide (c.list.length ≤ 64) && c.list.all asksC))))
theorem contains_cond {l : List VCond} (hl : l.length ≤ big) (h : ∀ c ∈ l, bCells (enc_VCond c) ≤ big) : slices_ContainsFunc_Cond l = some (!l.all asksC) := by
  unfold slices_ContainsFunc_Cond slices_IndexFunc_Cond
  refine fold_any (loop_idx l (fun c => !asksC c) hl (fun i hi => ?_) ?_) ((idxS_any _ _).trans (any_not _ _))
  · have : cond_CheckMedia_1 l[i] = some (!asksC l[i]) := by
      unfold cond_CheckMedia_1
      simp only [eta_Cond, cond_asks_eq (h _ (List.getElem_mem hi)), bindO, Option.bind_some]
    simp only [lt_true hi, cond_true, geti_eq hi, bindO, Option.bind_some, eta_Cond, this]
  · simp only [lt_self, cond_false]
theorem cond_CheckMedia_eq {c : VCond} (h : bCells (enc_VCond c) ≤ big) : cond_CheckMedia c = some (bif medialC c then 0 else 8) := by
  have hlen := zCond_list c
  have e : decide ((c.list.length : Int) ≤ 64) = decide (c.list.length ≤ 64) := le_not _ 64
  unfold cond_CheckMedia medialC
  simp only [eta_Cond, cond_bare_eq, contains_cond (show c.list.length ≤ big by omega) (fun y hy => by have := zCond_mem hy; omega), condO_some, bindO, Option.bind_some, pos_len, isEmpty_len, e]
  have h12 : c.kind == 1 → c.kind == 2 → False := fun a b => by rw [beq_iff_eq] at a b; omega
  cases bareC c with
  | false => rfl
  | true =>
    cases c.kind == 1 <;> cases c.kind == 2 <;> cases c.list.isEmpty <;> cases decide (c.list.length ≤ 64) <;> cases c.list.all asksC <;> rfl
theorem ref10_Medial_eq {c : VCond} (h : bCells (enc_VCond c) ≤ big) : ref10_Medial c = some (medialC c) := by
  have hlen := zCond_list c
  have e : decide ((c.list.length : Int) > 64) = !decide (c.list.length ≤ 64) := gt_not _ 64
  unfold ref10_Medial medialC
  simp only [eta_Cond, ref10_listed_eq, bindO, Option.bind_some, not_nil_len, isEmpty_len, e, bne]
  cases bareC c with
  | false => rfl
  | true =>
    simp only [Bool.not_true, cond_false, Bool.true_and]
    by_cases k1 : c.kind = 1
    · simp only [k1, Int.reduceBEq, cond_true, Bool.true_and, Bool.false_and, Bool.or_false]
    · have b1 := beq_eq_false_iff_ne.2 k1
      simp only [b1, cond_false, Bool.false_and, Bool.false_or]
      have hl : loopK (fun (s2 : Int) =>
            bif decide (s2 < (c.list.length : Int)) then
              (geti c.list s2).bind fun y3 =>
              (ref10_query y3).bind fun y4 =>
              bif !y4 then
                some (LO.ret false)
              else
                some (LO.again (w64 (s2 + 1)))
            else
              some (LO.out ()) : Int → Option (LO (Int) (Unit) _)) 0 (fun _ => some true) = some (c.list.all asksC) := by
        refine (loopK_find c.list (fun v => bif asksC v then none else some false) () (fun i hi => ?_) ?_).trans ?_
        · have hm := zCond_mem (List.getElem_mem hi)
          simp only [lt_true hi, cond_true, geti_eq hi, Option.bind_some, ref10_query_eq (show bCells (enc_VCond c.list[i]) ≤ big by omega), w64_succ hi (show c.list.length ≤ big by omega)]
          cases asksC c.list[i] <;> rfl
        · simp only [lt_self, cond_false]
        · rw [find_all]
          cases c.list.all asksC <;> rfl
      rw [hl]
      cases c.kind == 2 <;> cases c.list.isEmpty <;> cases decide (c.list.length ≤ 64) <;> rfl
end Go.Lv.VT

namespace Go.Lv.VT
theorem w64_nat {n : Nat} (h : n ≤ big) : w64 ((n : Int) + 1) = ((n + 1 : Nat) : Int) := by
  rw [w64, wrap64_id (by omega) (by unfold big at h; omega)]; omega
theorem w64_nat' {n : Nat} (h : n ≤ big) : w64 (1 + (n : Int)) = ((n + 1 : Nat) : Int) := by
  rw [w64, wrap64_id (by omega) (by unfold big at h; omega)]; omega
theorem sum_take {α : Type} (f : α → Nat) : ∀ {l : List α} {i : Nat} (h : i < l.length), ((l.take (i + 1)).map f).sum = ((l.take i).map f).sum + f l[i]
  | [], _, h => by cases h
  | v :: l, 0, _ => by simp
  | v :: l, i + 1, h => by
    simp only [List.take_succ_cons, List.map_cons, List.sum_cons, List.getElem_cons_succ]
    rw [sum_take f (l := l) (i := i) (by simpa using h)]
    omega
theorem sum_take_le {α : Type} (f : α → Nat) : ∀ (l : List α) (i : Nat), ((l.take i).map f).sum ≤ (l.map f).sum
  | [], _ => by simp
  | v :: l, 0 => by simp
  | v :: l, i + 1 => by
    simp only [List.take_succ_cons, List.map_cons, List.sum_cons]
    have := sum_take_le f l i
    omega
theorem mx_take {α : Type} (f : α → Nat) : ∀ {l : List α} {i : Nat} (h : i < l.length), mx f (l.take (i + 1)) = max (mx f (l.take i)) (f l[i])
  | [], _, h => by cases h
  | v :: l, 0, _ => by simp [mx]
  | v :: l, i + 1, h => by
    simp only [List.take_succ_cons, mx, List.getElem_cons_succ]
    rw [mx_take f (l := l) (i := i) (by simpa using h)]
    omega
theorem all_take {α : Type} (p : α → Bool) : ∀ {l : List α} {i : Nat} (h : i < l.length), (l.take (i + 1)).all p = ((l.take i).all p && p l[i])
  | [], _, h => by cases h
  | v :: l, 0, _ => by simp
  | v :: l, i + 1, h => by
    simp only [List.take_succ_cons, List.all_cons, List.getElem_cons_succ]
    rw [all_take p (l := l) (i := i) (by simpa using h), Bool.and_assoc]
theorem all_get {α : Type} {p : α → Bool} {l : List α} {i : Nat} (h : i < l.length) (hp : p l[i] = false) : l.all p = false := by
  rw [List.all_eq_false]
  exact ⟨l[i], List.getElem_mem h, by rw [hp]; simp⟩

def noneC (c : VCond) : Bool := c.kind == 0 && (c.list.isEmpty && bareC c)
theorem sheet_empty_eq (c : VCond) : sheet_empty c = some (noneC c) := by
  unfold sheet_empty noneC bareC plainD
  rw [isEmpty_len, isEmpty_len]
  cases c.kind == 0 <;> cases c.name == [] <;> cases c.num == 0 <;> cases c.list.isEmpty <;> cases c.decl.name == [] <;> cases c.decl.value.isEmpty <;> rfl
theorem same_nil (l : List VValue) : ref04_Same (l, []) = some l.isEmpty := by
  refine recE_meas (fun _ => 0) (fun x : List VValue × List VValue => x.2 = []) (fun x => x.1.isEmpty) (fun S x hx _ => ?_) (x := (l, [])) rfl
  obtain ⟨l, m⟩ := x
  obtain rfl : m = [] := hx
  unfold ref04_Same_B
  cases l with
  | nil =>
    refine (loopK_find ([] : List VValue) (fun _ => none) () (fun i hi => by cases hi) ?_).trans rfl
    simp only [List.length_nil, lt_self, cond_false]
  | cons v l =>
    have : (((v :: l).length : Int) != (([] : List VValue).length : Int)) = true := bne_iff_ne.2 (by simp only [List.length_cons, List.length_nil]; omega)
    simp only [this, cond_true]; rfl
theorem ref11_none_eq (c : VCond) : ref11_none c = some (noneC c) := by
  unfold ref11_none
  have : ref10_Same (c, (⟨0, [], 0, (⟨[], [], false⟩ : VDecl), []⟩ : VCond)) = some (noneC c) := by
    refine recE_meas (fun _ => 0) (fun x : VCond × VCond => x.2 = (⟨0, [], 0, (⟨[], [], false⟩ : VDecl), []⟩ : VCond)) (fun x => noneC x.1) (fun S x hx _ => ?_) (x := (c, _)) rfl
    obtain ⟨c, m⟩ := x
    obtain rfl : m = _ := hx
    have e5 : ref05_Same1 (c.decl, (⟨[], [], false⟩ : VDecl)) = some (plainD c.decl) := by
      unfold ref05_Same1 plainD
      simp only [same_nil, condO_some, bindO, Option.bind_some]
      cases c.decl.name == [] <;> cases c.decl.important <;> cases c.decl.value.isEmpty <;> rfl
    have el : ((c.list.length : Int) != (([] : List VCond).length : Int)) = !c.list.isEmpty := by rw [bne, List.length_nil, Int.natCast_zero, isEmpty_len]
    unfold ref10_Same_B noneC bareC
    simp only [e5, el, condO_some, bindO, Option.bind_some, bne]
    cases c.kind == 0 with
    | false => rfl
    | true =>
      cases hl : c.list with
      | cons y r => cases c.name == [] <;> cases c.num == 0 <;> cases plainD c.decl <;> rfl
      | nil =>
        cases c.name == [] <;> cases c.num == 0 <;> cases plainD c.decl <;> try rfl
        refine (loopK_find ([] : List VCond) (fun _ => none) () (fun i hi => by cases hi) ?_).trans rfl
        simp only [List.length_nil, lt_self, cond_false]
  simp only [eta_Cond, this, bindO, Option.bind_some]

mutual
def sizC : VCond → Nat
  | ⟨_, _, _, _, l⟩ => 1 + sizCs l
def sizCs : List VCond → Nat
  | [] => 0
  | c :: r => sizC c + sizCs r
end
theorem sizCs_sum (l : List VCond) : sizCs l = (l.map sizC).sum := by
  induction l with
  | nil => rw [sizCs]; rfl
  | cons c l ih => rw [sizCs, ih]; rfl
theorem sizC_eq (c : VCond) : sizC c = 1 + (c.list.map sizC).sum := by
  obtain ⟨k, n, m, d, l⟩ := c
  rw [sizC, sizCs_sum]
theorem sizCs_le : ∀ l : List VCond, sizCs l ≤ zL enc_VCond l := by
  have key : ∀ (n : Nat) (l : List VCond), zL enc_VCond l < n → sizCs l ≤ zL enc_VCond l := by
    intro n
    induction n with
    | zero => intro l h; omega
    | succ n ih =>
      intro l
      induction l with
      | nil => intro _; rw [sizCs]; exact Nat.zero_le _
      | cons v l ihl =>
        intro h
        rw [zL_cons] at h ⊢
        rw [sizCs, sizC_eq, ← sizCs_sum]
        have hz := zCond_eq v
        have hd := zDecl_pos v.decl
        have h1 := ih v.list (by omega)
        have h2 := ihl (by omega)
        omega
  exact fun l => key _ l (Nat.lt_succ_self _)
theorem sizC_le (c : VCond) : sizC c ≤ bCells (enc_VCond c) := by
  have := sizCs_le [c]
  rw [sizCs, sizCs, zL_cons, zL_nil] at this
  omega

theorem ref10_Size_rel {c : VCond} {m : Nat} (h : bCells (enc_VCond c) ≤ big) (hm : m ≤ big) :
    ∃ r : Nat, ref10_Size (c, (m : Int)) = some (r : Int) ∧ r ≤ sizC c ∧ (sizC c ≤ m → r = sizC c) ∧ (m < sizC c → m < r) := by
  have key : ∃ y : Int, ref10_Size (c, (m : Int)) = some y ∧ ∃ r : Nat, y = (r : Int) ∧ r ≤ sizC c ∧ ∀ m' : Nat, (m : Int) = (m' : Int) → (sizC c ≤ m' → r = sizC c) ∧ (m' < sizC c → m' < r) := by
    refine recE_rel mono_ref10_Size (fun x : VCond × Int => bCells (enc_VCond x.1)) (fun x => bCells (enc_VCond x.1) ≤ big ∧ ∃ m : Nat, x.2 = (m : Int) ∧ m ≤ big)
      (fun x (y : Int) => ∃ r : Nat, y = (r : Int) ∧ r ≤ sizC x.1 ∧ ∀ m' : Nat, x.2 = (m' : Int) → (sizC x.1 ≤ m' → r = sizC x.1) ∧ (m' < sizC x.1 → m' < r)) (fun S x hx hS => ?_) (x := (c, (m : Int))) ⟨h, m, rfl, hm⟩
    obtain ⟨c, n⟩ := x
    obtain ⟨hc, m, hn, hm⟩ := hx
    have hn : n = (m : Int) := hn
    have hc : bCells (enc_VCond c) ≤ big := hc
    subst hn
    have hlen := zCond_list c
    have hsz := sizC_le c
    have he := sizC_eq c
    unfold ref10_Size_B
    have hw : ∀ a : Nat, a ≤ big → w64 ((a : Int) + 0) = (a : Int) := fun a ha => by rw [w64, wrap64_id (by omega) (by unfold big at ha; omega)]; omega
    refine loop_rel (A := Nat) c.list.length (fun i a => ((a : Int), (i : Int))) (fun i a => a ≤ 1 + ((c.list.take i).map sizC).sum ∧ (1 + ((c.list.take i).map sizC).sum ≤ m → a = 1 + ((c.list.take i).map sizC).sum) ∧ (m < 1 + ((c.list.take i).map sizC).sum → m < a)) _ (a0 := 1) rfl (by simp) (fun i a hi hI => ?_) (fun a hI => .inl ?_)
    · obtain ⟨i1, i2, i3⟩ := hI
      have ht := sum_take_le sizC c.list i
      have ht1 := sum_take_le sizC c.list (i + 1)
      rw [sum_take sizC hi] at ht1
      have hmm := zCond_mem (List.getElem_mem hi)
      by_cases ham : a ≤ m
      · have ha : a = 1 + ((c.list.take i).map sizC).sum := i2 (by omega)
        have e1 : decide ((a : Int) ≤ (m : Int)) = true := decide_eq_true (by omega)
        have hw2 : w64 ((m : Int) - (a : Int)) = ((m - a : Nat) : Int) := by rw [w64, wrap64_id (by omega) (by unfold big at hm; omega)]; omega
        obtain ⟨y, hy1, r, hy2, hy3, hy4⟩ := hS (c.list[i], ((m - a : Nat) : Int)) ⟨by show bCells (enc_VCond c.list[i]) ≤ big; omega, m - a, rfl, by omega⟩ hmm
        have hy3 : r ≤ sizC c.list[i] := hy3
        obtain ⟨hy5, hy6⟩ := hy4 (m - a) rfl
        have hy5 : sizC c.list[i] ≤ m - a → r = sizC c.list[i] := hy5
        have hy6 : m - a < sizC c.list[i] → m - a < r := hy6
        have hw3 : w64 ((a : Int) + (r : Int)) = ((a + r : Nat) : Int) := w64_add (by omega)
        refine .inl ⟨a + r, ?_, ?_, ?_, ?_⟩
        · simp only [lt_true hi, e1, cond_true, geti_eq hi, bindO, Option.bind_some, eta_Cond, hw2, hy1, hy2, hw3, w64_succ hi (show c.list.length ≤ big by omega)]
        · rw [sum_take sizC hi]; omega
        · rw [sum_take sizC hi]; omega
        · rw [sum_take sizC hi]; omega
      · have e1 : decide ((a : Int) ≤ (m : Int)) = false := decide_eq_false (by omega)
        refine .inr (.inr ⟨(a : Int), ?_, (a : Int), rfl, a, rfl, ?_, fun m' hm' => ⟨fun h => ?_, fun h => ?_⟩⟩)
        · simp only [lt_true hi, e1, cond_true, cond_false]
        · show a ≤ sizC c; omega
        · have hm' : (m : Int) = (m' : Int) := hm'
          have h : sizC c ≤ m' := h
          show a = sizC c; omega
        · have hm' : (m : Int) = (m' : Int) := hm'
          show m' < a; omega
    · rw [List.take_length] at hI
      obtain ⟨i1, i2, i3⟩ := hI
      refine ⟨(a : Int), ?_, (a : Int), rfl, a, rfl, ?_, fun m' hm' => ⟨fun h => ?_, fun h => ?_⟩⟩
      · simp only [lt_self, cond_false]
      · show a ≤ sizC c; omega
      · have hm' : (m : Int) = (m' : Int) := hm'
        have h : sizC c ≤ m' := h
        show a = sizC c; omega
      · have hm' : (m : Int) = (m' : Int) := hm'
        have h : m' < sizC c := h
        show m' < a; omega
  obtain ⟨y, h1, r, rfl, h2, h3⟩ := key
  exact ⟨r, h1, h2, h3 m rfl⟩

def leafC (c : VCond) : Bool := c.kind == 7 || c.kind == 8
mutual
def deepC : VCond → Nat
  | ⟨k, _, _, d, l⟩ => bif k == 7 then 1 + deepL d.value else bif k == 8 then 1 else deepCs l
def deepCs : List VCond → Nat
  | [] => 0
  | c :: r => max ((bif leafC c then 0 else 1) + deepC c) (deepCs r)
end
def stepC (c : VCond) : Nat := (bif leafC c then 0 else 1) + deepC c
theorem deepCs_mx (l : List VCond) : deepCs l = mx stepC l := by
  induction l with
  | nil => rw [deepCs]; rfl
  | cons c l ih => rw [deepCs, ih]; rfl
theorem deepC_eq (c : VCond) : deepC c = bif c.kind == 7 then 1 + deepL c.decl.value else bif c.kind == 8 then 1 else mx stepC c.list := by
  obtain ⟨k, n, m, d, l⟩ := c
  rw [deepC, deepCs_mx]
theorem deepC_le : ∀ c : VCond, deepC c ≤ bCells (enc_VCond c) := by
  have key : ∀ (n : Nat) (c : VCond), bCells (enc_VCond c) < n → deepC c ≤ bCells (enc_VCond c) := by
    intro n
    induction n with
    | zero => intro c h; omega
    | succ n ih =>
      intro c h
      have hz := zCond_eq c
      have hd := zDecl_eq c.decl
      rw [deepC_eq]
      cases c.kind == 7 with
      | true =>
        have h1 := deepL_le c.decl.value
        have h2 := szL_zL c.decl.value
        simp only [cond_true]; omega
      | false =>
        cases c.kind == 8 with
        | true => simp only [cond_true, cond_false]; omega
        | false =>
          simp only [cond_false]
          have : ∀ l : List VCond, (∀ y ∈ l, y ∈ c.list) → mx stepC l ≤ 1 + zL enc_VCond l := by
            intro l
            induction l with
            | nil => intro _; exact Nat.zero_le _
            | cons y l ihl =>
              intro hl
              have h1 := ihl fun z hz => hl z (List.mem_cons_of_mem _ hz)
              have h2 := zCond_mem (hl y List.mem_cons_self)
              have h3 := ih y (by omega)
              have h4 : stepC y ≤ 1 + deepC y := by unfold stepC; cases leafC y <;> simp only [cond_true, cond_false] <;> omega
              rw [mx, zL_cons]
              omega
          have := this c.list fun _ h => h
          omega
  exact fun c => key _ c (Nat.lt_succ_self _)
theorem ref10_Deep_eq {c : VCond} (h : bCells (enc_VCond c) ≤ big) : ref10_Deep c = some (deepC c : Int) := by
  refine recE_meas (fun c => bCells (enc_VCond c)) (fun c => bCells (enc_VCond c) ≤ big) (fun c => (deepC c : Int)) (fun S c hc hS => ?_) h
  have hz := zCond_eq c
  have hd := zDecl_eq c.decl
  have hlen := zCond_list c
  have hv := szL_zL c.decl.value
  unfold ref10_Deep_B
  rw [deepC_eq]
  cases h7 : c.kind == 7 with
  | true =>
    have h1 := deepL_le c.decl.value
    simp only [cond_true, ref_deep (show szL c.decl.value ≤ big by omega), bindO, Option.bind_some, w64_nat' (show deepL c.decl.value ≤ big by omega)]
    rw [Nat.add_comm]
  | false =>
    cases h8 : c.kind == 8 with
    | true => rfl
    | false =>
      simp only [cond_false]
      refine (loop_max c.list stepC (fun a i => ((a : Int), (i : Int))) (fun a => (a : Int)) (a0 := 0) rfl (fun i a hi => ?_) (fun a => ?_)).trans ?_
      · have hm := zCond_mem (List.getElem_mem hi)
        have hs := hS c.list[i] (by omega) hm
        have hst := deepC_le c.list[i]
        simp only [lt_true hi, cond_true, geti_eq hi, bindO, Option.bind_some, eta_Cond, hs, w64_succ hi (show c.list.length ≤ big by omega)]
        have hlf : (bif c.list[i].kind == 7 then true else c.list[i].kind == 8) = leafC c.list[i] := by unfold leafC; cases c.list[i].kind == 7 <;> rfl
        rw [hlf]
        have hst' : stepC c.list[i] = (bif leafC c.list[i] then 0 else 1) + deepC c.list[i] := rfl
        cases hlc : leafC c.list[i] with
        | true =>
          rw [hlc, cond_true, Nat.zero_add] at hst'
          have hw : w64 (0 + (deepC c.list[i] : Int)) = (stepC c.list[i] : Int) := by rw [w64, wrap64_id (by omega) (by unfold big at hc; omega)]; omega
          simp only [cond_true, joinK_out, hw, max_if]
        | false =>
          rw [hlc, cond_false] at hst'
          have hw : w64 (1 + (deepC c.list[i] : Int)) = (stepC c.list[i] : Int) := by rw [w64, wrap64_id (by omega) (by unfold big at hc; omega)]; omega
          simp only [cond_false, joinK_out, hw, max_if]
      · simp only [lt_self, cond_false]
      · rw [Nat.zero_max]

mutual
def supC : VCond → Bool
  | ⟨k, n, m, d, l⟩ => bif k == 7 then l.isEmpty && (n == [] && (m == 0 && declS d)) else bif k == 8 then l.isEmpty && bareC ⟨k, n, m, d, l⟩ else
    (k == 3 || (k == 1 || k == 2)) && (bareC ⟨k, n, m, d, l⟩ && ((bif k == 3 then l.length == 1 else decide (2 ≤ l.length)) && supCs l))
def supCs : List VCond → Bool
  | [] => true
  | c :: r => supC c && supCs r
end
theorem supCs_all (l : List VCond) : supCs l = l.all supC := by
  induction l with
  | nil => rw [supCs]; rfl
  | cons c l ih => rw [supCs, ih]; rfl
theorem supC_eq (c : VCond) : supC c = bif c.kind == 7 then c.list.isEmpty && (c.name == [] && (c.num == 0 && declS c.decl)) else bif c.kind == 8 then c.list.isEmpty && bareC c else
    (c.kind == 3 || (c.kind == 1 || c.kind == 2)) && (bareC c && ((bif c.kind == 3 then c.list.length == 1 else decide (2 ≤ c.list.length)) && c.list.all supC)) := by
  obtain ⟨k, n, m, d, l⟩ := c
  rw [supC, supCs_all]
theorem lt_two {α : Type} (l : List α) : decide ((l.length : Int) < 2) = !decide (2 ≤ l.length) := by
  by_cases h : 2 ≤ l.length
  · rw [decide_eq_true h, decide_eq_false (by omega)]; rfl
  · rw [decide_eq_false h, decide_eq_true (by omega)]; rfl
theorem len_one' {α : Type} (l : List α) : ((l.length : Int) == 1) = (l.length == 1) := by rw [Bool.eq_iff_iff, beq_iff_eq, beq_iff_eq]; omega

theorem ref10_supported_eq {c : VCond} (h : bCells (enc_VCond c) ≤ big) : ref10_supported c = some (supC c) := by
  refine recE_meas (fun c => bCells (enc_VCond c)) (fun c => bCells (enc_VCond c) ≤ big) (fun c => supC c) (fun S c hc hS => ?_) h
  have hlen := zCond_list c
  have hd := zCond_decl c
  unfold ref10_supported_B
  rw [supC_eq]
  simp only [eta_Cond, ref10_listed_eq, ref05_Check_eq (show bCells (enc_VDecl c.decl) ≤ big by omega), isEmpty_len, condO_some, bindO, Option.bind_some]
  cases h7 : c.kind == 7 with
  | true =>
    simp only [cond_true]
    cases c.name == [] <;> cases c.num == 0 <;> cases c.list.isEmpty <;> cases declS c.decl <;> rfl
  | false =>
    cases h8 : c.kind == 8 with
    | true =>
      simp only [cond_true, cond_false]
      cases bareC c <;> cases c.list.isEmpty <;> rfl
    | false =>
      simp only [cond_false]
      cases h3 : c.kind == 3 with
      | true =>
        simp only [cond_true, Bool.true_or, Bool.true_and, len_one']
        cases bareC c with
        | false => rfl
        | true =>
          cases hl : c.list with
          | nil => rfl
          | cons y r =>
            cases r with
            | nil =>
              have hm := zCond_mem (c := c) (y := y) (by rw [hl]; exact List.mem_cons_self)
              have e2 : geti [y] 0 = some y := rfl
              have e3 : (([y] : List VCond).length == 1) = true := rfl
              simp only [e2, e3, cond_true, condO_true, Option.bind_some, hS y (show bCells (enc_VCond y) ≤ big by omega) hm, Bool.true_and, List.all_cons, List.all_nil, Bool.and_true]
            | cons z r =>
              have e3 : ((y :: z :: r).length == 1) = false := by simp
              simp only [e3, cond_true, condO_false, Option.bind_some, cond_false, Bool.false_and, Bool.and_false]
      | false =>
        have hj : ∀ {R : Type} (k : Bool → Option R), joinK (X := Bool) (bif c.kind == 1 then some (LX.out (c.kind == 1)) else some (LX.out (c.kind == 2))) k = k (c.kind == 1 || c.kind == 2) := by
          intro R k
          cases c.kind == 1 <;> rfl
        simp only [cond_false, Bool.false_or]
        rw [hj]
        cases (c.kind == 1 || c.kind == 2) with
        | false => rfl
        | true =>
          simp only [cond_true, lt_two, Bool.true_and]
          have hl : loopK (fun (s8 : Int) =>
                bif decide (s8 < (c.list.length : Int)) then
                  (geti c.list s8).bind fun y9 =>
                  (S y9).bind fun y10 =>
                  bif !y10 then
                    some (LO.ret false)
                  else
                    some (LO.again (w64 (s8 + 1)))
                else
                  some (LO.out ()) : Int → Option (LO (Int) (Unit) _)) 0 (fun _ => some true) = some (c.list.all supC) := by
            refine (loopK_find c.list (fun v => bif supC v then none else some false) () (fun i hi => ?_) ?_).trans ?_
            · have hm := zCond_mem (List.getElem_mem hi)
              simp only [lt_true hi, cond_true, geti_eq hi, Option.bind_some, hS _ (show bCells (enc_VCond c.list[i]) ≤ big by omega) hm, w64_succ hi (show c.list.length ≤ big by omega)]
              cases supC c.list[i] <;> rfl
            · simp only [lt_self, cond_false]
            · rw [find_all]
              cases c.list.all supC <;> rfl
          rw [hl]
          cases bareC c <;> cases decide (2 ≤ c.list.length) <;> rfl

theorem cond_leaf_eq (c : VCond) : cond_leaf c = some (leafC c) := by
  unfold cond_leaf leafC
  cases c.kind == 7 <;> rfl
theorem cond_look_rel {c : VCond} {m : Nat} (h : bCells (enc_VCond c) ≤ big) (hm : m ≤ 1500) :
    ∃ y : (Int × Bool) × Int, cond_look (c, (m : Int)) = some y ∧ y.1.2 = (supC c && decide (m + sizC c ≤ 1500)) ∧ (y.1.2 = true → y.1.1 = (deepC c : Int) ∧ y.2 = ((m + sizC c : Nat) : Int)) := by
  have key : ∃ y : (Int × Bool) × Int, cond_look (c, (m : Int)) = some y ∧ ∀ m' : Nat, (m : Int) = (m' : Int) → y.1.2 = (supC c && decide (m' + sizC c ≤ 1500)) ∧ (y.1.2 = true → y.1.1 = (deepC c : Int) ∧ y.2 = ((m' + sizC c : Nat) : Int)) := by
    refine recE_rel mono_cond_look (fun x : VCond × Int => bCells (enc_VCond x.1)) (fun x => bCells (enc_VCond x.1) ≤ big ∧ ∃ m : Nat, x.2 = (m : Int) ∧ m ≤ 1500)
      (fun x (y : (Int × Bool) × Int) => ∀ m' : Nat, x.2 = (m' : Int) → y.1.2 = (supC x.1 && decide (m' + sizC x.1 ≤ 1500)) ∧ (y.1.2 = true → y.1.1 = (deepC x.1 : Int) ∧ y.2 = ((m' + sizC x.1 : Nat) : Int))) (fun S x hx hS => ?_) (x := (c, (m : Int))) ⟨h, m, rfl, hm⟩
    obtain ⟨c, n⟩ := x
    obtain ⟨hc, m, hn, hm⟩ := hx
    have hn : n = (m : Int) := hn
    have hc : bCells (enc_VCond c) ≤ big := hc
    subst hn
    have hlen := zCond_list c
    have hd := zCond_decl c
    have hsz := sizC_le c
    have he := sizC_eq c
    have hv := szL_zL c.decl.value
    have hzd := zDecl_eq c.decl
    have fin : ∀ (d : Int) (b : Bool) (n : Int), b = (supC c && decide (m + sizC c ≤ 1500)) → (b = true → d = (deepC c : Int) ∧ n = ((m + sizC c : Nat) : Int)) →
        ∀ m' : Nat, (m : Int) = (m' : Int) → b = (supC c && decide (m' + sizC c ≤ 1500)) ∧ (b = true → d = (deepC c : Int) ∧ n = ((m' + sizC c : Nat) : Int)) := by
      intro d b n h1 h2 m' hm'
      obtain rfl : m = m' := by omega
      exact ⟨h1, h2⟩
    have hw : w64 ((m : Int) + 1) = ((m + 1 : Nat) : Int) := w64_nat (by unfold big; omega)
    unfold cond_look_B
    simp only [hw, eta_Cond]
    by_cases hm1 : m + 1 > 1500
    · have e1 : decide (((m + 1 : Nat) : Int) > 1500) = true := decide_eq_true (by omega)
      simp only [e1, cond_true]
      have e2 : decide (m + sizC c ≤ 1500) = false := decide_eq_false (by omega)
      exact ⟨_, rfl, fin _ _ _ (by rw [e2, Bool.and_false]) (fun h => by cases h)⟩
    have e1 : decide (((m + 1 : Nat) : Int) > 1500) = false := decide_eq_false (by omega)
    simp only [e1, cond_false]
    have hs := supC_eq c
    have hdp := deepC_eq c
    cases h7 : c.kind == 7 with
    | true =>
      rw [h7] at hs hdp
      simp only [cond_true] at hs hdp ⊢
      rw [nest_depth (show szL c.decl.value ≤ big by omega), decl_Check_eq (show bCells (enc_VDecl c.decl) ≤ big by omega)]
      simp only [bindO, Option.bind_some, isEmpty_len, condO_some]
      refine ⟨_, rfl, fin _ _ _ ?_ ?_⟩
      · rw [hs]
        have hde : declS c.decl = (declS c.decl && (errS c.decl.value == 0)) := by
          unfold declS
          cases nameD c.decl.name <;> cases errS c.decl.value == 0 <;> simp
        cases hle : c.list.isEmpty with
        | false => rfl
        | true =>
          have hl : c.list = [] := List.isEmpty_iff.1 hle
          rw [hl] at he
          have e2 : decide (m + sizC c ≤ 1500) = true := decide_eq_true (by rw [he]; simp; omega)
          rw [e2]
          by_cases her : errS c.decl.value = 0
          · rw [if_pos her]
            cases c.name == [] <;> cases c.num == 0 <;> cases declS c.decl <;> rfl
          · rw [if_neg her]
            have her' := beq_eq_false_iff_ne.2 her
            rw [her', Bool.and_false] at hde
            rw [hde]
            simp only [her']
            cases c.name == [] <;> cases c.num == 0 <;> rfl
      · intro hf
        have her : errS c.decl.value = 0 := by
          by_cases her : errS c.decl.value = 0
          · exact her
          · rw [if_neg her] at hf
            have her' := beq_eq_false_iff_ne.2 her
            simp only [her'] at hf
            revert hf
            cases c.list.isEmpty <;> cases c.name == [] <;> cases c.num == 0 <;> intro h <;> cases h
        have hl : c.list = [] := by
          cases hle : c.list.isEmpty with
          | true => exact List.isEmpty_iff.1 hle
          | false => rw [hle] at hf; cases hf
        have h1 := deepL_le c.decl.value
        rw [if_pos her, hdp]
        rw [hl] at he
        simp only [w64_nat (show deepL c.decl.value ≤ big by omega)]
        refine ⟨by rw [Nat.add_comm], ?_⟩
        rw [he]; rfl
    | false =>
      rw [h7] at hs hdp
      simp only [cond_false] at hs hdp ⊢
      cases h8 : c.kind == 8 with
      | true =>
        rw [h8] at hs hdp
        simp only [cond_true] at hs hdp ⊢
        simp only [bindO, Option.bind_some, isEmpty_len, condO_some, cond_bare_eq]
        refine ⟨_, rfl, fin _ _ _ ?_ ?_⟩
        · rw [hs]
          cases hle : c.list.isEmpty with
          | false => rfl
          | true =>
            have hl : c.list = [] := List.isEmpty_iff.1 hle
            rw [hl] at he
            have e2 : decide (m + sizC c ≤ 1500) = true := decide_eq_true (by rw [he]; simp; omega)
            rw [e2]
            cases bareC c <;> rfl
        · intro hf
          have hl : c.list = [] := by
            cases hle : c.list.isEmpty with
            | true => exact List.isEmpty_iff.1 hle
            | false => rw [hle] at hf; cases hf
          rw [hl] at he
          rw [hdp, he]
          exact ⟨rfl, rfl⟩
      | false =>
        rw [h8] at hs hdp
        simp only [cond_false] at hs hdp ⊢
        have hj : ∀ {R : Type} (k : Bool → Option R), joinK (X := Bool) (bif c.kind == 3 then some (LX.out (c.kind == 3)) else bif c.kind == 1 then some (LX.out (c.kind == 1)) else some (LX.out (c.kind == 2))) k = k (c.kind == 3 || (c.kind == 1 || c.kind == 2)) := by
          intro R k
          cases c.kind == 3 <;> cases c.kind == 1 <;> rfl
        rw [hj]
        cases hk : (c.kind == 3 || (c.kind == 1 || c.kind == 2)) with
        | false =>
          rw [hk] at hs
          exact ⟨_, rfl, fin _ _ _ (by rw [hs]; rfl) (fun h => by cases h)⟩
        | true =>
          rw [hk] at hs
          simp only [cond_true, Bool.true_and] at hs ⊢
          have hg : (bif bif !bareC c then true else bif c.kind == 3 then (c.list.length : Int) != 1 else false then true else bif c.kind != 3 then decide ((c.list.length : Int) < 2) else false) = !(bareC c && (bif c.kind == 3 then c.list.length == 1 else decide (2 ≤ c.list.length))) := by
            rw [lt_two, bne, bne, len_one']
            cases bareC c <;> cases c.kind == 3 <;> cases c.list.length == 1 <;> rfl
          simp only [cond_bare_eq, bindO, Option.bind_some, hg]
          cases hb : (bareC c && (bif c.kind == 3 then c.list.length == 1 else decide (2 ≤ c.list.length))) with
          | false =>
            rw [← Bool.and_assoc, hb] at hs
            exact ⟨_, rfl, fin _ _ _ (by rw [hs]; rfl) (fun h => by cases h)⟩
          | true =>
            rw [← Bool.and_assoc, hb, Bool.true_and] at hs
            simp only [Bool.not_true, cond_false]
            refine loop_rel (A := Nat × Nat) c.list.length (fun i a => (((a.1 : Int), (i : Int)), (a.2 : Int))) (fun i a => a.2 = m + 1 + ((c.list.take i).map sizC).sum ∧ a.2 ≤ 1500 ∧ a.1 = mx stepC (c.list.take i) ∧ (c.list.take i).all supC = true) _ (a0 := (0, m + 1)) rfl ⟨by simp, by show m + 1 ≤ 1500; omega, by simp [mx], by simp⟩ (fun i a hi hI => ?_) (fun a hI => .inl ?_)
            · obtain ⟨i1, i2, i3, i4⟩ := hI
              have ht := sum_take_le sizC c.list (i + 1)
              rw [sum_take sizC hi] at ht
              have hmm := zCond_mem (List.getElem_mem hi)
              obtain ⟨y, hy1, hy2⟩ := hS (c.list[i], (a.2 : Int)) ⟨by show bCells (enc_VCond c.list[i]) ≤ big; omega, a.2, rfl, i2⟩ hmm
              obtain ⟨hy3, hy4⟩ := hy2 a.2 rfl
              have hy3 : y.1.2 = (supC c.list[i] && decide (a.2 + sizC c.list[i] ≤ 1500)) := hy3
              simp only [lt_true hi, cond_true, geti_eq hi, Option.bind_some, eta_Cond, hy1]
              cases hf : y.1.2 with
              | false =>
                refine .inr (.inl ⟨_, rfl, fin _ _ _ ?_ (fun h => by cases h)⟩)
                rw [hf] at hy3
                cases hsi : supC c.list[i] with
                | false => rw [hs, all_get hi hsi]; rfl
                | true =>
                  rw [hsi, Bool.true_and] at hy3
                  have := of_decide_eq_false hy3.symm
                  have e2 : decide (m + sizC c ≤ 1500) = false := decide_eq_false (by omega)
                  rw [e2, Bool.and_false]
              | true =>
                obtain ⟨hy5, hy6⟩ := hy4 hf
                rw [hf] at hy3
                have hy3 := hy3.symm
                rw [Bool.and_eq_true] at hy3
                have hle := of_decide_eq_true hy3.2
                have hdl := deepC_le c.list[i]
                have hy5 : y.1.1 = (deepC c.list[i] : Int) := hy5
                have hy6 : y.2 = ((a.2 + sizC c.list[i] : Nat) : Int) := hy6
                refine .inl ⟨(max a.1 (stepC c.list[i]), a.2 + sizC c.list[i]), ?_, ?_, hle, ?_, ?_⟩
                · have hst : stepC c.list[i] = (bif leafC c.list[i] then 0 else 1) + deepC c.list[i] := rfl
                  have hw2 := w64_nat (n := deepC c.list[i]) (by omega)
                  simp only [Bool.not_true, cond_false, cond_leaf_eq, Option.bind_some, hy5, hy6, hw2, w64_succ hi (show c.list.length ≤ big by omega)]
                  cases hlf : leafC c.list[i] with
                  | true =>
                    rw [hlf] at hst
                    rw [cond_true, Nat.zero_add] at hst
                    simp only [Bool.not_true, cond_false, joinK_out, hst, max_if]
                  | false =>
                    rw [hlf] at hst
                    rw [cond_false, Nat.add_comm] at hst
                    simp only [Bool.not_false, cond_true, joinK_out, hst, max_if]
                · rw [sum_take sizC hi, i1]; show _ + _ + _ + _ = _; omega
                · rw [mx_take stepC hi, i3]
                · rw [all_take supC hi, i4, hy3.1]; rfl
            · rw [List.take_length] at hI
              obtain ⟨i1, i2, i3, i4⟩ := hI
              refine ⟨((a.1 : Int), (a.2 : Int)), ?_, _, rfl, fin _ _ _ ?_ (fun _ => ⟨?_, ?_⟩)⟩
              · simp only [lt_self, cond_false]
              · have e2 : decide (m + sizC c ≤ 1500) = true := decide_eq_true (by omega)
                rw [hs, i4, e2]; rfl
              · rw [hdp, i3]
              · show (a.2 : Int) = _
                rw [i1, he]; congr 1; omega
  obtain ⟨y, h1, h2⟩ := key
  exact ⟨y, h1, h2 m rfl⟩

def supportC (c : VCond) : Bool := supC c && (decide (sizC c ≤ 1500) && decide (deepC c ≤ 16))
theorem cond_CheckSupports_eq {c : VCond} (h : bCells (enc_VCond c) ≤ big) : cond_CheckSupports c = some (bif supportC c then 0 else 8) := by
  obtain ⟨y, h1, h2, h3⟩ := cond_look_rel (m := 0) h (by omega)
  unfold cond_CheckSupports supportC
  replace h1 : cond_look (c, 0) = some y := h1
  simp only [eta_Cond, h1, bindO, Option.bind_some]
  rw [Nat.zero_add] at h2
  cases hf : y.1.2 with
  | false =>
    rw [hf] at h2
    rw [← Bool.and_assoc, ← h2]; rfl
  | true =>
    have e : decide ((deepC c : Int) > 16) = !decide (deepC c ≤ 16) := gt_not _ 16
    rw [(h3 hf).1, e]
    rw [hf] at h2
    rw [← Bool.and_assoc, ← h2]
    cases decide (deepC c ≤ 16) <;> rfl
theorem ref10_Supportive_eq {c : VCond} (h : bCells (enc_VCond c) ≤ big) : ref10_Supportive c = some (supportC c) := by
  obtain ⟨r, h1, h2, h3, h4⟩ := ref10_Size_rel (m := 1500) h (by unfold big; omega)
  replace h1 : ref10_Size (c, 1500) = some (r : Int) := h1
  have e : decide ((deepC c : Int) ≤ 16) = decide (deepC c ≤ 16) := le_not _ 16
  have e2 : decide ((r : Int) ≤ 1500) = decide (sizC c ≤ 1500) := by
    by_cases hs : sizC c ≤ 1500
    · rw [decide_eq_true hs, h3 hs, decide_eq_true (by omega)]
    · have := h4 (by omega)
      rw [decide_eq_false hs, decide_eq_false (by omega)]
  unfold ref10_Supportive supportC
  simp only [eta_Cond, h1, bindO, Option.bind_some, ref10_Deep_eq h, ref10_supported_eq h, condO_some, e2]
  cases decide (sizC c ≤ 1500) with
  | false => simp
  | true => simp only [cond_true, e]; cases decide (deepC c ≤ 16) <;> cases supC c <;> rfl

theorem sheet_told_rel {c : VCond} (h : bCells (enc_VCond c) ≤ big) : ∃ y : Int, sheet_told c = some y ∧ (supC c = true → y = (deepC c : Int)) := by
  refine recE_rel mono_sheet_told (fun c => bCells (enc_VCond c)) (fun c => bCells (enc_VCond c) ≤ big) (fun c (y : Int) => supC c = true → y = (deepC c : Int)) (fun S c hc hS => ?_) h
  have hlen := zCond_list c
  have hv := szL_zL c.decl.value
  have hz := zCond_eq c
  have hzd := zDecl_eq c.decl
  have hs := supC_eq c
  have hdp := deepC_eq c
  unfold sheet_told_B
  cases h7 : c.kind == 7 with
  | true =>
    rw [h7] at hs hdp
    simp only [cond_true] at hs hdp ⊢
    rw [nest_depth (show szL c.decl.value ≤ big by omega)]
    refine ⟨_, rfl, fun h => ?_⟩
    have her : errS c.decl.value = 0 := by
      rw [hs] at h
      unfold declS at h
      simp only [Bool.and_eq_true, beq_iff_eq] at h
      exact h.2.2.2.2.1
    have h1 := deepL_le c.decl.value
    rw [if_pos her, hdp, w64_nat (show deepL c.decl.value ≤ big by omega), Nat.add_comm]
  | false =>
    rw [h7] at hs hdp
    simp only [cond_false] at hs hdp ⊢
    cases h8 : c.kind == 8 with
    | true =>
      rw [h8] at hdp
      exact ⟨_, rfl, fun _ => by rw [hdp]; rfl⟩
    | false =>
      rw [h8] at hs hdp
      simp only [cond_false] at hs hdp ⊢
      refine loop_rel (A := Int) c.list.length (fun i a => (a, (i : Int))) (fun i a => supC c = true → a = (mx stepC (c.list.take i) : Int)) _ (a0 := 0) rfl (fun _ => by simp [mx]) (fun i a hi hI => .inl ?_) (fun a hI => .inl ?_)
      · have hm := zCond_mem (List.getElem_mem hi)
        obtain ⟨y, hy1, hy2⟩ := hS c.list[i] (by omega) hm
        have hlf : (bif c.list[i].kind != 7 then c.list[i].kind != 8 else false) = !leafC c.list[i] := by unfold leafC; rw [bne, bne]; cases c.list[i].kind == 7 <;> rfl
        refine ⟨if (bif leafC c.list[i] then y else w64 (y + 1)) > a then (bif leafC c.list[i] then y else w64 (y + 1)) else a, ?_, fun h => ?_⟩
        · simp only [lt_true hi, cond_true, geti_eq hi, bindO, Option.bind_some, eta_Cond, hy1, hlf, w64_succ hi (show c.list.length ≤ big by omega)]
          cases leafC c.list[i] <;> rfl
        · have ha := hI h
          have hall : c.list.all supC = true := by
            rw [hs] at h
            simp only [Bool.and_eq_true] at h
            exact h.2.2.2
          have hy := hy2 (List.all_eq_true.1 hall _ (List.getElem_mem hi))
          have hst : stepC c.list[i] = (bif leafC c.list[i] then 0 else 1) + deepC c.list[i] := rfl
          have hdl := deepC_le c.list[i]
          rw [mx_take stepC hi, ha, hy]
          cases hlf2 : leafC c.list[i] with
          | true =>
            rw [hlf2, cond_true, Nat.zero_add] at hst
            simp only [cond_true, ← hst, max_if]
          | false =>
            rw [hlf2, cond_false, Nat.add_comm] at hst
            simp only [cond_false, w64_nat (show deepC c.list[i] ≤ big by omega), ← hst, max_if]
      · refine ⟨a, ?_, a, rfl, fun h => ?_⟩
        · simp only [lt_self, cond_false]
        · rw [hI h, List.take_length, hdp]
end Go.Lv.VT

namespace Go.Lv.VT
def GoesOn {A S X R : Type} (k : X → Option R) (st : Nat → A → S) (Q : R → Prop) (i : Nat) : LO S X R → Prop
  | .again s => ∃ a', s = st (i + 1) a'
  | .ret r => Q r
  | .out x => ∃ r, k x = some r ∧ Q r
def Ends {S X R : Type} (k : X → Option R) (Q : R → Prop) : LO S X R → Prop
  | .again _ => False
  | .ret r => Q r
  | .out x => ∃ r, k x = some r ∧ Q r
theorem loop_ex {A S X R : Type} {step : S → Option (LO S X R)} {k : X → Option R} (n : Nat) (st : Nat → A → S) (Q : R → Prop) {s0 : S} {a0 : A} (h0 : s0 = st 0 a0)
    (hg : ∀ (i : Nat) (a : A), i < n → ∃ o, step (st i a) = some o ∧ GoesOn k st Q i o) (hf : ∀ a, ∃ o, step (st n a) = some o ∧ Ends k Q o) : ∃ r, loopK step s0 k = some r ∧ Q r := by
  refine loop_rel n st (fun _ _ => True) Q h0 trivial (fun i a hi _ => ?_) (fun a _ => ?_)
  · obtain ⟨o, h1, h2⟩ := hg i a hi
    cases o with
    | again s => obtain ⟨a', rfl⟩ := h2; exact .inl ⟨a', h1, trivial⟩
    | ret r => exact .inr (.inl ⟨r, h1, h2⟩)
    | out x => exact .inr (.inr ⟨x, h1, h2⟩)
  · obtain ⟨o, h1, h2⟩ := hf a
    cases o with
    | again s => exact h2.elim
    | ret r => exact .inr ⟨r, h1, h2⟩
    | out x => exact .inl ⟨x, h1, h2⟩

theorem bif_ex {α : Type} {b : Bool} {A B : Option α} {P : α → Prop} (h1 : ∃ o, A = some o ∧ P o) (h2 : ∃ o, B = some o ∧ P o) : ∃ o, (bif b then A else B) = some o ∧ P o := by
  cases b
  · exact h2
  · exact h1
theorem ref04_Size_ex {l : List VValue} {m : Int} (h : szL l ≤ big) : ∃ r, ref04_Size (l, m) = some r := by
  have : ∃ r, ref04_Size (l, m) = some r ∧ True := by
    refine recE_rel mono_ref04_Size (fun x => szL x.1) (fun x => szL x.1 ≤ big) (fun _ _ => True) (fun S x hx hS => ?_) (x := (l, m)) h
    obtain ⟨l, m⟩ := x
    have hx : szL l ≤ big := hx
    have hlen := szL_len l
    unfold ref04_Size_B
    refine loop_ex (A := Int) l.length (fun i a => (a, (i : Int))) _ (a0 := 0) rfl (fun i a hi => ?_) (fun a => ?_)
    · have hsz := szL_mem (List.getElem_mem hi)
      have hv := szV_eq l[i]
      cases ha : decide (a ≤ m) with
      | false => simp only [lt_true hi, cond_true, cond_false, ha]; exact ⟨_, rfl, _, rfl, trivial⟩
      | true =>
        obtain ⟨r, hr, _⟩ := hS (l[i].list, w64 (m - a)) (by show szL l[i].list ≤ big; omega) (by show szL l[i].list < szL l; omega)
        simp only [lt_true hi, cond_true, ha, geti_eq hi, bindO, Option.bind_some, hr, w64_succ hi (show l.length ≤ big by omega)]
        exact ⟨_, rfl, _, rfl⟩
    · simp only [lt_self, cond_false]; exact ⟨_, rfl, _, rfl, trivial⟩
  obtain ⟨r, hr, _⟩ := this
  exact ⟨r, hr⟩

theorem ref05_Great_ex {l : List VDecl} (h : zL enc_VDecl l ≤ big) : ∃ r, ref05_Great l = some r := by
  have hlen := zL_len zDecl_pos l
  have : ∃ r, ref05_Great l = some r ∧ True := by
    unfold ref05_Great
    cases decide ((l.length : Int) > 40) with
    | true => exact ⟨_, rfl, trivial⟩
    | false =>
      simp only [cond_false]
      refine loop_ex (A := Int) l.length (fun i a => (a, (i : Int))) _ (a0 := 0) rfl (fun i a hi => ?_) (fun a => ?_)
      · have hm := zL_mem (f := enc_VDecl) (List.getElem_mem hi)
        have hz := zDecl_eq l[i]
        have hv := szL_zL l[i].value
        obtain ⟨r, hr⟩ := ref04_Size_ex (l := l[i].value) (m := 300) (by omega)
        simp only [lt_true hi, cond_true, geti_eq hi, bindO, Option.bind_some, hr, condO_some, w64_succ hi (show l.length ≤ big by omega)]
        have hd : ∀ (g : Bool) (k : Int → Option (LO (Int × Int) Unit Bool)), ((condO g (ref04_Deep (bif g then l[i] else default).value) (default : Int)).bind k) = k (bif g then (deepL l[i].value : Int) else default) := by
          intro g k
          cases g with
          | false => rfl
          | true => simp only [cond_true, condO_true, ref_deep (show szL l[i].value ≤ big by omega), Option.bind_some]
        rw [hd]
        exact bif_ex ⟨_, rfl, trivial⟩ ⟨_, rfl, _, rfl⟩
      · simp only [lt_self, cond_false]; exact ⟨_, rfl, _, rfl, trivial⟩
  obtain ⟨r, hr, _⟩ := this
  exact ⟨r, hr⟩

theorem ref10_long_ex {c : VCond} (h : bCells (enc_VCond c) ≤ big) : ∃ r, ref10_long c = some r := by
  have : ∃ r, ref10_long c = some r ∧ True := by
    refine recE_rel mono_ref10_long (fun c => bCells (enc_VCond c)) (fun c => bCells (enc_VCond c) ≤ big) (fun _ _ => True) (fun S c hc hS => ?_) h
    have hlen := zCond_list c
    have hd := zCond_decl c
    obtain ⟨r, hr⟩ := ref05_Great_ex (l := [c.decl]) (by rw [zL_cons, zL_nil]; omega)
    unfold ref10_long_B
    simp only [hr, bindO, Option.bind_some]
    refine bif_ex ⟨_, rfl, trivial⟩ ?_
    · refine loop_ex (A := Unit) c.list.length (fun i _ => (i : Int)) _ (a0 := ()) rfl (fun i a hi => ?_) (fun a => ?_)
      · have hm := zCond_mem (List.getElem_mem hi)
        obtain ⟨q, hq, _⟩ := hS c.list[i] (by omega) hm
        simp only [lt_true hi, cond_true, geti_eq hi, Option.bind_some, eta_Cond, hq, w64_succ hi (show c.list.length ≤ big by omega)]
        cases q with
        | true => exact ⟨_, rfl, trivial⟩
        | false => exact ⟨_, rfl, (), rfl⟩
      · simp only [lt_self, cond_false]; exact ⟨_, rfl, _, rfl, trivial⟩
  obtain ⟨r, hr, _⟩ := this
  exact ⟨r, hr⟩
theorem ref10_Great_ex {c : VCond} (h : bCells (enc_VCond c) ≤ big) : ∃ r, ref10_Great c = some r := by
  obtain ⟨n, h1, _⟩ := ref10_Size_rel (m := 100) h (by unfold big; omega)
  replace h1 : ref10_Size (c, 100) = some (n : Int) := h1
  obtain ⟨b, h2⟩ := ref10_long_ex h
  unfold ref10_Great
  simp only [eta_Cond, h1, h2, bindO, Option.bind_some, condO_some]
  exact ⟨_, rfl⟩

theorem ref08_size_ex {l : List VComplex} {m : Int} (h : zL enc_VComplex l ≤ big) : ∃ r, ref08_size (l, m) = some r := by
  have : ∃ r, ref08_size (l, m) = some r ∧ True := by
    refine recE_rel mono_ref08_size (fun x => zL enc_VComplex x.1) (fun x => zL enc_VComplex x.1 ≤ big) (fun _ _ => True) (fun S x hx hS => ?_) (x := (l, m)) h
    obtain ⟨l, m⟩ := x
    have hx : zL enc_VComplex l ≤ big := hx
    have hlen := zL_len zComplex_pos l
    unfold ref08_size_B
    refine loop_ex (A := Int) l.length (fun i a => (a, (i : Int))) _ (a0 := 0) rfl (fun i a hi => ?_) (fun a => ?_)
    · have hm := zL_mem (f := enc_VComplex) (List.getElem_mem hi)
      have hz := zComplex_eq l[i]
      have hlen2 := zL_len zCompound_pos l[i].parts
      cases ha : decide (a ≤ m) with
      | false => simp only [lt_true hi, cond_true, cond_false, ha]; exact ⟨_, rfl, _, rfl, trivial⟩
      | true =>
        simp only [lt_true hi, cond_true, ha, geti_eq hi, bindO, Option.bind_some, w64_succ hi (show l.length ≤ big by omega)]
        refine loop_ex (A := Int) l[i].parts.length (fun i a => (a, (i : Int))) _ rfl (fun j b hj => ?_) (fun b => ?_)
        · have hm2 := zL_mem (f := enc_VCompound) (List.getElem_mem hj)
          have hz2 := zCompound_eq l[i].parts[j]
          have hlen3 := zL_len zSimple_pos l[i].parts[j].simples
          cases hb : decide (b ≤ m) with
          | false => simp only [lt_true hj, cond_true, cond_false, hb]; exact ⟨_, rfl, _, rfl, _, rfl⟩
          | true =>
            simp only [lt_true hj, cond_true, hb, geti_eq hj, Option.bind_some, w64_succ hj (show l[i].parts.length ≤ big by omega)]
            refine loop_ex (A := Int) l[i].parts[j].simples.length (fun i a => (a, (i : Int))) _ rfl (fun n c hn => ?_) (fun c => ?_)
            · have hm3 := zL_mem (f := enc_VSimple) (List.getElem_mem hn)
              have hz3 := zSimple_eq l[i].parts[j].simples[n]
              cases hc : decide (c ≤ m) with
              | false => simp only [lt_true hn, cond_true, cond_false, hc]; exact ⟨_, rfl, _, rfl, _, rfl⟩
              | true =>
                obtain ⟨r, hr, _⟩ := hS (l[i].parts[j].simples[n].list, w64 (m - c)) (by show zL enc_VComplex l[i].parts[j].simples[n].list ≤ big; omega) (by show zL enc_VComplex l[i].parts[j].simples[n].list < zL enc_VComplex l; omega)
                simp only [lt_true hn, cond_true, hc, geti_eq hn, Option.bind_some, hr, w64_succ hn (show l[i].parts[j].simples.length ≤ big by omega)]
                exact ⟨_, rfl, _, rfl⟩
            · simp only [lt_self, cond_false]; exact ⟨_, rfl, _, rfl, _, rfl⟩
        · simp only [lt_self, cond_false]; exact ⟨_, rfl, _, rfl, _, rfl⟩
    · simp only [lt_self, cond_false]; exact ⟨_, rfl, _, rfl, trivial⟩
  obtain ⟨r, hr, _⟩ := this
  exact ⟨r, hr⟩
theorem ref08_Great_ex {l : List VComplex} (h : zL enc_VComplex l ≤ big) : ∃ r, ref08_Great l = some r := by
  obtain ⟨r, hr⟩ := ref08_size_ex (m := 600) h
  unfold ref08_Great
  rw [hr]
  exact ⟨_, rfl⟩

theorem zNames (l : List (List Str)) : l.length ≤ zL (fun l : List Str => [.sl (l.map fun y => [.str y])]) l ∧ ∀ n ∈ l, n.length ≤ zL (fun l : List Str => [.sl (l.map fun y => [.str y])]) l ∧ ∀ s ∈ n, s.length ≤ zL (fun l : List Str => [.sl (l.map fun y => [.str y])]) l := by
  have h1 : ∀ n : List Str, n.length ≤ zL (fun y : Str => [.str y]) n := zL_len (fun y => by simp [bCells, bPV])
  have h2 : ∀ n : List Str, bCells [.sl (n.map fun y => [.str y])] = 1 + zL (fun y : Str => [.str y]) n := zStrs_eq
  refine ⟨zL_len (fun v => by rw [h2]; omega) l, fun n hn => ?_⟩
  have hm := zL_mem (f := fun l : List Str => [.sl (l.map fun y => [.str y])]) hn
  have h3 := h2 n
  have h4 := h1 n
  refine ⟨by omega, fun s hs => ?_⟩
  have h5 := zL_mem (f := fun y : Str => [.str y]) hs
  have h6 : bCells [PV.str s] = 1 + s.length ∨ bCells [PV.str s] = s.length := by simp only [bCells, bPV]; omega
  omega

theorem ref11_weighed_ex {l : List VRule} {m : Int} (h : zL enc_VRule l ≤ big) : ∃ r, ref11_weighed (l, m) = some r := by
  have : ∃ r, ref11_weighed (l, m) = some r ∧ True := by
    refine recE_rel mono_ref11_weighed (fun x => zL enc_VRule x.1) (fun x => zL enc_VRule x.1 ≤ big) (fun _ _ => True) (fun S x hx hS => ?_) (x := (l, m)) h
    obtain ⟨l, m⟩ := x
    have hx : zL enc_VRule l ≤ big := hx
    have hlen := zL_len zRule_pos l
    unfold ref11_weighed_B
    refine bif_ex ⟨_, rfl, trivial⟩ ?_
    · refine loop_ex (A := Unit) l.length (fun i _ => (i : Int)) _ (a0 := ()) rfl (fun i a hi => ?_) (fun a => ?_)
      · have hm := zL_mem (f := enc_VRule) (List.getElem_mem hi)
        have hz := zRule_eq l[i]
        have hcp := zCond_pos l[i].cond
        obtain ⟨hn1, hn2⟩ := zNames l[i].names
        obtain ⟨q1, h1⟩ := ref08_Great_ex (l := l[i].selectors) (by omega)
        obtain ⟨q2, h2⟩ := ref05_Great_ex (l := l[i].decls) (by omega)
        obtain ⟨q3, h3⟩ := ref10_Great_ex (c := l[i].cond) (by omega)
        obtain ⟨q4, h4, _⟩ := hS (l[i].rules, w64 (m - 1)) (by show zL enc_VRule l[i].rules ≤ big; omega) (by show zL enc_VRule l[i].rules < zL enc_VRule l; omega)
        simp only [lt_true hi, cond_true, geti_eq hi, bindO, Option.bind_some, eta_Cond, h1, h2, h3, h4, condO_some, w64_succ hi (show l.length ≤ big by omega)]
        refine bif_ex ⟨_, rfl, trivial⟩ ?_
        · refine loop_ex (A := Unit) l[i].names.length (fun i _ => (i : Int)) _ (a0 := ()) rfl (fun j a hj => ?_) (fun a => ?_)
          · simp only [lt_true hj, cond_true, geti_eq hj, Option.bind_some, w64_succ hj (show l[i].names.length ≤ big by omega)]
            cases decide ((l[i].names[j].length : Int) > 20) with
            | true => exact ⟨_, rfl, trivial⟩
            | false => exact ⟨_, rfl, (), rfl⟩
          · simp only [lt_self, cond_false]; exact ⟨_, rfl, _, rfl, (), rfl⟩
      · simp only [lt_self, cond_false]; exact ⟨_, rfl, _, rfl, trivial⟩
  obtain ⟨r, hr, _⟩ := this
  exact ⟨r, hr⟩

mutual
def numR : VRule → Nat
  | ⟨_, _, _, _, _, l⟩ => 1 + numRs l
def numRs : List VRule → Nat
  | [] => 0
  | r :: l => numR r + numRs l
end
theorem numR_eq (r : VRule) : numR r = 1 + numRs r.rules := by obtain ⟨⟩ := r; rw [numR]
theorem numRs_sum (l : List VRule) : numRs l = (l.map numR).sum := by
  induction l with
  | nil => rw [numRs]; rfl
  | cons c l ih => rw [numRs, ih]; rfl
theorem numRs_le : ∀ l : List VRule, numRs l ≤ zL enc_VRule l := by
  have key : ∀ (n : Nat) (l : List VRule), zL enc_VRule l < n → numRs l ≤ zL enc_VRule l := by
    intro n
    induction n with
    | zero => intro l h; omega
    | succ n ih =>
      intro l
      induction l with
      | nil => intro _; rw [numRs]; exact Nat.zero_le _
      | cons v l ihl =>
        intro h
        rw [zL_cons] at h ⊢
        rw [numRs, numR_eq]
        have hz := zRule_eq v
        have h1 := ih v.rules (by omega)
        have h2 := ihl (by omega)
        omega
  exact fun l => key _ l (Nat.lt_succ_self _)
theorem numRs_len (l : List VRule) : numRs l = l.length + (l.map fun r => numRs r.rules).sum := by
  induction l with
  | nil => rw [numRs]; rfl
  | cons r l ih => rw [numRs, ih, numR_eq, List.map_cons, List.sum_cons, List.length_cons]; omega
theorem ref11_Number_eq {l : List VRule} (h : zL enc_VRule l ≤ big) : ref11_Number l = some (numRs l : Int) := by
  refine recE_meas (fun l => zL enc_VRule l) (fun l => zL enc_VRule l ≤ big) (fun l => (numRs l : Int)) (fun S l hl hS => ?_) h
  unfold ref11_Number_B
  have hn := numRs_le l
  have hlen := zL_len zRule_pos l
  rw [numRs_len] at hn ⊢
  refine (loop_sum l (fun r => numRs r.rules) l.length big (by omega) (fun i a hi ha => ?_) (fun a => ?_)).trans rfl
  · have hm := zL_mem (f := enc_VRule) (List.getElem_mem hi)
    have hz := zRule_eq l[i]
    simp only [lt_true hi, cond_true, geti_eq hi, bindO, Option.bind_some, w64_succ hi (show l.length ≤ big by omega), hS l[i].rules (show zL enc_VRule l[i].rules ≤ big by omega) (show zL enc_VRule l[i].rules < zL enc_VRule l by omega), w64_add ha]
  · simp only [lt_self, cond_false]
theorem ref11_Great_ex {l : List VRule} (h : zL enc_VRule l ≤ big) : ∃ r, ref11_Great l = some r := by
  obtain ⟨q, hq⟩ := ref11_weighed_ex (m := 30) h
  unfold ref11_Great
  simp only [hq, ref11_Number_eq h, bindO, Option.bind_some, condO_some]
  exact ⟨_, rfl⟩
end Go.Lv.VT

namespace Go.Lv.VT
theorem loop_fold {α A S X R : Type} {step : S → Option (LO S X R)} {k : X → Option R} (l : List α) (f : A → α → A) (st : A → Nat → S) (out : A → X) {s0 : S} {a0 : A} (h0 : s0 = st a0 0)
    (hg : ∀ (i : Nat) (a : A) (h : i < l.length), step (st a i) = some (.again (st (f a l[i]) (i + 1))))
    (hf : ∀ a : A, step (st a l.length) = some (.out (out a))) : loopK step s0 k = k (out (l.foldl f a0)) := by
  have key : ∀ (m : List α) (i : Nat) (a : A), l.drop i = m → i ≤ l.length → ∃ n, iterF step n (st a i) = some (.out (out (m.foldl f a))) := by
    intro m
    induction m with
    | nil =>
      intro i a hd hi
      have : i = l.length := by have := List.drop_eq_nil_iff.1 hd; omega
      subst this
      exact ⟨1, by simp only [iterF, hf, List.foldl_nil]⟩
    | cons v m ih =>
      intro i a hd hi
      have hlt : i < l.length := by
        rcases Nat.lt_or_ge i l.length with h | h
        · exact h
        · rw [List.drop_eq_nil_of_le h] at hd; cases hd
      have hv : l[i] = v := by
        have := List.drop_eq_getElem_cons hlt
        rw [hd] at this
        injection this with h1 _
        exact h1.symm
      have hs := hg i a hlt
      rw [hv] at hs
      obtain ⟨n, hn⟩ := ih (i + 1) (f a v) (by rw [List.drop_eq_getElem_cons hlt] at hd; injection hd) (by omega)
      refine ⟨n + 1, ?_⟩
      simp only [iterF, hs]
      rw [hn, List.foldl_cons]
  obtain ⟨n, hn⟩ := key l 0 a0 rfl (by omega)
  rw [h0, loopK_go (loopF_of hn)]
  rfl
theorem foldl_or {α : Type} (p : α → Bool) : ∀ (l : List α) (b : Bool), l.foldl (fun b v => b || p v) b = (b || l.any p)
  | [], b => by simp
  | v :: l, b => by rw [List.foldl_cons, foldl_or p l, List.any_cons, Bool.or_assoc]

def firstS (x : VSimple) : Bool := (x.kind == 9 || x.kind == 10) && (!x.of_ && (x.anb.a == 0 && x.anb.b == 1))
def innS (x : VSimple) : Bool := x.kind == 3 || (decide (9 ≤ x.kind) && !firstS x)
mutual
def selL : List VComplex → Nat
  | [] => 0
  | ⟨_, parts, _⟩ :: r => max (selP parts) (selL r)
def selP : List VCompound → Nat
  | [] => 0
  | ⟨_, simples⟩ :: r => max (selI simples) (selP r)
def selI : List VSimple → Nat
  | [] => 0
  | ⟨k, n, o, v, f, a, w, list⟩ :: r => max (bif innS ⟨k, n, o, v, f, a, w, list⟩ then 1 + selL list else 0) (selI r)
end
def oneI (x : VSimple) : Nat := bif innS x then 1 + selL x.list else 0
theorem selI_eq (l : List VSimple) : selI l = mx oneI l := by
  induction l with
  | nil => rw [selI]; rfl
  | cons x l ih => obtain ⟨⟩ := x; rw [selI, ih]; rfl
theorem selP_eq (l : List VCompound) : selP l = mx (fun x => selI x.simples) l := by
  induction l with
  | nil => rw [selP]; rfl
  | cons x l ih => obtain ⟨⟩ := x; rw [selP, ih]; rfl
theorem selL_eq (l : List VComplex) : selL l = mx (fun x => selP x.parts) l := by
  induction l with
  | nil => rw [selL]; rfl
  | cons x l ih => obtain ⟨⟩ := x; rw [selL, ih]; rfl
mutual
theorem selL_le : ∀ l : List VComplex, selL l ≤ zL enc_VComplex l
  | [] => by rw [selL]; exact Nat.zero_le _
  | ⟨a, parts, b⟩ :: r => by
    rw [selL, zL_cons, zComplex_eq]
    have := selP_le parts
    have := selL_le r
    show max (selP parts) (selL r) ≤ 3 + zL enc_VCompound parts + b.length + _
    omega
theorem selP_le : ∀ l : List VCompound, selP l ≤ zL enc_VCompound l
  | [] => by rw [selP]; exact Nat.zero_le _
  | ⟨a, simples⟩ :: r => by
    rw [selP, zL_cons, zCompound_eq]
    have := selI_le simples
    have := selP_le r
    show max (selI simples) (selP r) ≤ 2 + a.length + zL enc_VSimple simples + _
    omega
theorem selI_le : ∀ l : List VSimple, selI l ≤ zL enc_VSimple l
  | [] => by rw [selI]; exact Nat.zero_le _
  | ⟨a, b, c, d, e, f, g, list⟩ :: r => by
    rw [selI, zL_cons, zSimple_eq]
    have := selL_le list
    have := selI_le r
    show max (bif innS ⟨a, b, c, d, e, f, g, list⟩ then 1 + selL list else 0) (selI r) ≤ 9 + b.length + d.length + zL enc_VComplex list + _
    cases innS ⟨a, b, c, d, e, f, g, list⟩ <;> simp only [cond_true, cond_false] <;> omega
end
theorem first_eq (x : VSimple) : (bif bif bif x.kind == 9 then true else x.kind == 10 then !x.of_ else false then x.anb.a == 0 && (x.anb.b == 1 && true) else false) = firstS x := by
  unfold firstS
  cases x.kind == 9 <;> cases x.kind == 10 <;> cases x.of_ <;> cases x.anb.a == 0 <;> cases x.anb.b == 1 <;> rfl
theorem ref08_First_eq (x : VSimple) : ref08_First x = some (firstS x) := congrArg some (first_eq x)
theorem inn_prog (x : VSimple) : (bif x.kind == 3 then true else bif decide (x.kind ≥ 9) then !(bif bif bif x.kind == 9 then true else x.kind == 10 then !x.of_ else false then x.anb.a == 0 && (x.anb.b == 1 && true) else false) else false) = innS x := by
  rw [first_eq]
  unfold innS
  show (bif x.kind == 3 then true else bif decide (9 ≤ x.kind) then !firstS x else false) = _
  cases x.kind == 3 <;> cases decide (9 ≤ x.kind) <;> rfl
theorem sheet_selected_eq {l : List VComplex} (h : zL enc_VComplex l ≤ big) : sheet_selected l = some (selL l : Int) := by
  refine recE_meas (fun l => zL enc_VComplex l) (fun l => zL enc_VComplex l ≤ big) (fun l => (selL l : Int)) (fun S l hl hS => ?_) h
  have hlen := zL_len zComplex_pos l
  unfold sheet_selected_B
  refine (loop_max l (fun x => selP x.parts) (fun a i => ((a : Int), (i : Int))) (fun a => (a : Int)) (a0 := 0) rfl (fun i a hi => ?_) (fun a => ?_)).trans (by rw [selL_eq, Nat.zero_max])
  · have hm := zL_mem (f := enc_VComplex) (List.getElem_mem hi)
    have hz := zComplex_eq l[i]
    have hlen2 := zL_len zCompound_pos l[i].parts
    simp only [lt_true hi, cond_true, geti_eq hi, bindO, Option.bind_some, w64_succ hi (show l.length ≤ big by omega)]
    refine (loop_max l[i].parts (fun x => selI x.simples) (fun a i => ((a : Int), (i : Int))) (fun a => (a : Int)) (a0 := a) rfl (fun j b hj => ?_) (fun a => ?_)).trans (by rw [selP_eq])
    · have hm2 := zL_mem (f := enc_VCompound) (List.getElem_mem hj)
      have hz2 := zCompound_eq l[i].parts[j]
      have hlen3 := zL_len zSimple_pos l[i].parts[j].simples
      simp only [lt_true hj, cond_true, geti_eq hj, Option.bind_some, w64_succ hj (show l[i].parts.length ≤ big by omega)]
      refine (loop_max l[i].parts[j].simples oneI (fun a i => ((a : Int), (i : Int))) (fun a => (a : Int)) (a0 := b) rfl (fun n c hn => ?_) (fun a => ?_)).trans (by rw [selI_eq])
      · have hm3 := zL_mem (f := enc_VSimple) (List.getElem_mem hn)
        have hz3 := zSimple_eq l[i].parts[j].simples[n]
        have hle := selL_le l[i].parts[j].simples[n].list
        simp only [lt_true hn, cond_true, geti_eq hn, Option.bind_some, w64_succ hn (show l[i].parts[j].simples.length ≤ big by omega)]
        have hs := hS l[i].parts[j].simples[n].list (by show zL enc_VComplex l[i].parts[j].simples[n].list ≤ big; omega) (by show zL enc_VComplex l[i].parts[j].simples[n].list < zL enc_VComplex l; omega)
        have hw := w64_nat (n := selL l[i].parts[j].simples[n].list) (by omega)
        simp only [inn_prog, hs, Option.bind_some, hw]
        have hone : oneI l[i].parts[j].simples[n] = bif innS l[i].parts[j].simples[n] then 1 + selL l[i].parts[j].simples[n].list else 0 := rfl
        rw [hone]
        cases innS l[i].parts[j].simples[n] with
        | true => simp only [cond_true, joinK_out, max_if, w64_succ hn (show l[i].parts[j].simples.length ≤ big by omega)]; rw [Nat.add_comm 1]
        | false => simp only [cond_false, joinK_out, Nat.max_zero, w64_succ hn (show l[i].parts[j].simples.length ≤ big by omega)]
      · simp only [lt_self, cond_false]
    · simp only [lt_self, cond_false]
  · simp only [lt_self, cond_false]
theorem ref11_selected_eq {l : List VComplex} (h : zL enc_VComplex l ≤ big) : ref11_selected l = some (selL l : Int) := by
  refine recE_meas (fun l => zL enc_VComplex l) (fun l => zL enc_VComplex l ≤ big) (fun l => (selL l : Int)) (fun S l hl hS => ?_) h
  have hlen := zL_len zComplex_pos l
  unfold ref11_selected_B
  refine (loop_max l (fun x => selP x.parts) (fun a i => ((a : Int), (i : Int))) (fun a => (a : Int)) (a0 := 0) rfl (fun i a hi => ?_) (fun a => ?_)).trans (by rw [selL_eq, Nat.zero_max])
  · have hm := zL_mem (f := enc_VComplex) (List.getElem_mem hi)
    have hz := zComplex_eq l[i]
    have hlen2 := zL_len zCompound_pos l[i].parts
    simp only [lt_true hi, cond_true, geti_eq hi, bindO, Option.bind_some, w64_succ hi (show l.length ≤ big by omega)]
    refine (loop_max l[i].parts (fun x => selI x.simples) (fun a i => ((a : Int), (i : Int))) (fun a => (a : Int)) (a0 := a) rfl (fun j b hj => ?_) (fun a => ?_)).trans (by rw [selP_eq])
    · have hm2 := zL_mem (f := enc_VCompound) (List.getElem_mem hj)
      have hz2 := zCompound_eq l[i].parts[j]
      have hlen3 := zL_len zSimple_pos l[i].parts[j].simples
      simp only [lt_true hj, cond_true, geti_eq hj, Option.bind_some, w64_succ hj (show l[i].parts.length ≤ big by omega)]
      refine (loop_max l[i].parts[j].simples oneI (fun a i => ((a : Int), (i : Int))) (fun a => (a : Int)) (a0 := b) rfl (fun n c hn => ?_) (fun a => ?_)).trans (by rw [selI_eq])
      · have hm3 := zL_mem (f := enc_VSimple) (List.getElem_mem hn)
        have hz3 := zSimple_eq l[i].parts[j].simples[n]
        have hle := selL_le l[i].parts[j].simples[n].list
        simp only [lt_true hn, cond_true, geti_eq hn, Option.bind_some, w64_succ hn (show l[i].parts[j].simples.length ≤ big by omega)]
        have hs := hS l[i].parts[j].simples[n].list (by show zL enc_VComplex l[i].parts[j].simples[n].list ≤ big; omega) (by show zL enc_VComplex l[i].parts[j].simples[n].list < zL enc_VComplex l; omega)
        have hw := w64_nat' (n := selL l[i].parts[j].simples[n].list) (by omega)
        have hinn : (bif l[i].parts[j].simples[n].kind == 3 then true else bif decide ((bif !(l[i].parts[j].simples[n].kind == 3) then l[i].parts[j].simples[n] else (default : VSimple)).kind ≥ 9) then !(bif decide ((bif !(l[i].parts[j].simples[n].kind == 3) then l[i].parts[j].simples[n] else (default : VSimple)).kind ≥ 9) && !(l[i].parts[j].simples[n].kind == 3) then firstS (bif decide ((bif !(l[i].parts[j].simples[n].kind == 3) then l[i].parts[j].simples[n] else (default : VSimple)).kind ≥ 9) && !(l[i].parts[j].simples[n].kind == 3) then l[i].parts[j].simples[n] else (default : VSimple)) else default) else false) = innS l[i].parts[j].simples[n] := by
          unfold innS
          cases hk : l[i].parts[j].simples[n].kind == 3 with
          | true => rfl
          | false =>
            simp only [cond_true, cond_false, Bool.not_false, Bool.and_true, Bool.false_or]
            show (bif decide (9 ≤ l[i].parts[j].simples[n].kind) then _ else _) = (decide (9 ≤ l[i].parts[j].simples[n].kind) && _)
            cases h9 : decide (9 ≤ l[i].parts[j].simples[n].kind) with
            | false => rfl
            | true =>
              have h9' : decide (l[i].parts[j].simples[n].kind ≥ 9) = true := h9
              simp only [h9', cond_true, Bool.true_and]
        simp only [condO_some, Option.bind_some, eta_Simple, ref08_First_eq, hinn, hs, hw]
        have hone : oneI l[i].parts[j].simples[n] = bif innS l[i].parts[j].simples[n] then 1 + selL l[i].parts[j].simples[n].list else 0 := rfl
        rw [hone]
        cases innS l[i].parts[j].simples[n] with
        | true => simp only [cond_true, joinK_out, max_if, w64_succ hn (show l[i].parts[j].simples.length ≤ big by omega)]; rw [Nat.add_comm 1]
        | false => simp only [cond_false, joinK_out, Nat.max_zero, w64_succ hn (show l[i].parts[j].simples.length ≤ big by omega)]
      · simp only [lt_self, cond_false]
    · simp only [lt_self, cond_false]
  · simp only [lt_self, cond_false]

mutual
def askB : VCond → Bool
  | ⟨k, _, _, _, l⟩ => (k == 5 || k == 6) || askBs l
def askBs : List VCond → Bool
  | [] => false
  | c :: r => askB c || askBs r
end
theorem askB_eq (c : VCond) : askB c = ((c.kind == 5 || c.kind == 6) || c.list.any askB) := by
  have : ∀ l : List VCond, askBs l = l.any askB := by
    intro l
    induction l with
    | nil => rw [askBs]; rfl
    | cons c l ih => rw [askBs, ih]; rfl
  obtain ⟨k, n, m, d, l⟩ := c
  rw [askB, this]
def bN (b : Bool) : Int := bif b then 1 else 0
theorem sheet_asked_eq {c : VCond} (h : bCells (enc_VCond c) ≤ big) : sheet_asked c = some (bN (askB c)) := by
  refine recE_meas (fun c => bCells (enc_VCond c)) (fun c => bCells (enc_VCond c) ≤ big) (fun c => bN (askB c)) (fun S c hc hS => ?_) h
  have hlen := zCond_list c
  have hj : ∀ {R : Type} (k : Int → Option R), joinK (X := Int) (bif bif c.kind == 5 then true else c.kind == 6 then some (LX.out 1) else some (LX.out 0)) k = k (bN (c.kind == 5 || c.kind == 6)) := by
    intro R k
    cases c.kind == 5 <;> cases c.kind == 6 <;> rfl
  unfold sheet_asked_B
  rw [hj]
  refine (loop_fold c.list (fun b y => b || askB y) (fun b i => (bN b, (i : Int))) bN (a0 := (c.kind == 5 || c.kind == 6)) rfl (fun i b hi => ?_) (fun b => ?_)).trans (by rw [foldl_or, ← askB_eq])
  · have hm := zCond_mem (List.getElem_mem hi)
    simp only [lt_true hi, cond_true, geti_eq hi, bindO, Option.bind_some, eta_Cond, hS c.list[i] (show bCells (enc_VCond c.list[i]) ≤ big by omega) hm, w64_succ hi (show c.list.length ≤ big by omega)]
    cases b <;> cases askB c.list[i] <;> rfl
  · simp only [lt_self, cond_false]

def unw (c : VCond) : VCond := match c.list with
  | [y] => bif c.kind == 3 then y else c
  | _ => c
def askR (c : VCond) : Bool := c.list.any fun y => (unw y).list.any fun z => z.kind != 4
theorem unw_eq (c : VCond) (R : Type) (a : Int) (k : Int × VCond → Option R) : joinK (X := Int × VCond) (
              bif bif c.kind == 3 then (c.list.length : Int) == 1 else false then
                (geti c.list 0).bind fun y4 =>
                some (LX.out (a, y4))
              else
                some (LX.out (a, c))) k = k (a, unw c) := by
  unfold unw
  cases hl : c.list with
  | nil => cases c.kind == 3 <;> rfl
  | cons y r =>
    cases r with
    | nil => cases c.kind == 3 <;> rfl
    | cons z r => rw [len_one]; cases c.kind == 3 <;> rfl
theorem unw_len {c : VCond} (h : bCells (enc_VCond c) ≤ big) : (unw c).list.length ≤ big := by
  have := zCond_list c
  unfold unw
  split
  · rename_i y hl
    have := zCond_mem (c := c) (y := y) (by rw [hl]; exact List.mem_cons_self)
    have := zCond_list y
    cases c.kind == 3 <;> simp only [cond_true, cond_false] <;> omega
  · omega
theorem ref_asked {l : List VCond} (hl : l.length ≤ big) (h : ∀ c ∈ l, bCells (enc_VCond c) ≤ big) : loopK (fun (s2 : Int × Int) =>
        bif decide (s2.2 < (l.length : Int)) then
          (geti l s2.2).bind fun y3 =>
          joinK (X := Int × VCond) (
              bif bif y3.kind == 3 then (y3.list.length : Int) == 1 else false then
                (geti y3.list 0).bind fun y4 =>
                some (LX.out (s2.1, y4))
              else
                some (LX.out (s2.1, y3))) fun j5 =>
          loopK (fun (s6 : Int × Int) =>
              bif decide (s6.2 < (j5.2.list.length : Int)) then
                joinK (X := Int × Int) (
                    (geti j5.2.list s6.2).bind fun y7 =>
                    bif y7.kind != 4 then
                      some (LX.out (1, s6.2))
                    else
                      some (LX.out (s6.1, s6.2))) fun j8 =>
                some (LO.again (j8.1, w64 (j8.2 + 1)))
              else
                some (LO.out s6.1) : Int × Int → Option (LO (Int × Int) (Int) _)) (j5.1, 0) fun o9 =>
          some (LO.again (o9, w64 (s2.2 + 1)))
        else
          some (LO.out s2.1) : Int × Int → Option (LO (Int × Int) (Int) _)) (0, 0) (fun o10 => some o10) = some (bN (l.any fun y => (unw y).list.any fun z => z.kind != 4)) := by
  refine (loop_fold l (fun b y => b || (unw y).list.any fun z => z.kind != 4) (fun b i => (bN b, (i : Int))) bN (a0 := false) rfl (fun i b hi => ?_) (fun b => ?_)).trans (by rw [foldl_or, Bool.false_or])
  · have hb := h _ (List.getElem_mem hi)
    have hul := unw_len hb
    simp only [lt_true hi, cond_true, geti_eq hi, Option.bind_some, w64_succ hi hl]
    rw [unw_eq]
    refine (loop_fold (unw l[i]).list (fun b (z : VCond) => b || z.kind != 4) (fun b i => (bN b, (i : Int))) bN (a0 := b) rfl (fun j d hj => ?_) (fun b => ?_)).trans (by rw [foldl_or])
    · simp only [lt_true hj, cond_true, geti_eq hj, Option.bind_some]
      cases (unw l[i]).list[j].kind != 4 with
      | true => simp only [cond_true, joinK_out, w64_succ hj hul, Bool.or_true]; rfl
      | false => simp only [cond_false, joinK_out, w64_succ hj hul, Bool.or_false]
    · simp only [lt_self, cond_false]
  · simp only [lt_self, cond_false]

theorem any_congr {α : Type} {p q : α → Bool} : ∀ {l : List α}, (∀ v ∈ l, p v = q v) → l.any p = l.any q
  | [], _ => rfl
  | x :: l, h => by rw [List.any_cons, List.any_cons, h x List.mem_cons_self, any_congr fun v hv => h v (List.mem_cons_of_mem _ hv)]
theorem leaf_ask {b : Bool} {y : VCond} (h : leafQ b y = true) : askB y = (y.kind != 4) := by
  unfold leafQ at h
  rw [Bool.and_eq_true] at h
  have hl : y.list = [] := List.isEmpty_iff.1 h.1
  rw [askB_eq, hl, List.any_nil, Bool.or_false, bne]
  have h2 := h.2
  rw [Bool.and_eq_true] at h2
  have h3 := h2.2
  simp only [Bool.or_eq_true, Bool.and_eq_true, beq_iff_eq] at h3
  rcases h3 with ⟨_, h4, _⟩ | ⟨h5 | h6, _⟩
  · rw [h4]; rfl
  · rw [h5]; rfl
  · rw [h6]; rfl
theorem leaves_ask {l : List VCond} (h : leavesQ l = true) : ∀ y ∈ l, askB y = (y.kind != 4) := by
  intro y hy
  obtain ⟨i, hi, rfl⟩ := List.mem_iff_getElem.1 hy
  unfold leavesQ at h
  have := List.all_eq_true.1 h i (by simpa using hi)
  simp only [List.getD_eq_getElem?_getD, List.getElem?_eq_getElem hi, Option.getD_some] at this
  exact leaf_ask this
theorem query_ask {c : VCond} (h : queryC c = true) : askB c = c.list.any fun z => z.kind != 4 := by
  unfold queryC at h
  simp only [Bool.and_eq_true, beq_iff_eq] at h
  rw [askB_eq, h.1]
  show ((false || false) || _) = _
  rw [Bool.or_self, Bool.false_or]
  exact any_congr (leaves_ask h.2.2.2)
theorem asks_ask {c : VCond} (h : asksC c = true) : askB c = (unw c).list.any fun z => z.kind != 4 := by
  unfold asksC at h
  unfold unw
  cases h3 : c.kind == 3 with
  | false =>
    rw [h3, cond_false] at h
    have := query_ask h
    split
    · rw [cond_false]; exact this
    · exact this
  | true =>
    rw [h3, cond_true, Bool.and_eq_true] at h
    have h2 := h.2
    split at h2
    · rename_i y hl
      simp only [hl, cond_true]
      rw [Bool.and_eq_true] at h2
      rw [askB_eq, beq_iff_eq.1 h3, hl, List.any_cons, List.any_nil, Bool.or_false, query_ask h2.1]
      rfl
    · cases h2
theorem medial_ask {c : VCond} (h : medialC c = true) : askB c = askR c := by
  unfold medialC at h
  rw [Bool.and_eq_true, Bool.or_eq_true, Bool.and_eq_true, Bool.and_eq_true, Bool.and_eq_true, Bool.and_eq_true, beq_iff_eq, beq_iff_eq] at h
  unfold askR
  rw [askB_eq]
  rcases h.2 with ⟨h1, h2⟩ | ⟨h1, h2⟩
  · rw [h1, List.isEmpty_iff.1 h2]; rfl
  · rw [h1]
    show ((false || false) || _) = _
    rw [Bool.or_self, Bool.false_or]
    exact any_congr fun y hy => asks_ask (List.all_eq_true.1 h2.2.2 y hy)

def bareR (r : VRule) : Bool := r.selectors.isEmpty && r.decls.isEmpty
def headR (r : VRule) : Bool :=
  bif r.kind == 1 then (selS r.selectors == 0) && (decide (r.decls.length ≤ 32) && (noneC r.cond && (r.names.isEmpty && (r.rules.isEmpty && r.decls.all declS))))
  else bif r.kind == 2 then bareR r && (r.names.isEmpty && medialC r.cond)
  else bif r.kind == 3 then bareR r && (r.names.isEmpty && supportC r.cond)
  else bif r.kind == 4 then bareR r && (decide (r.names.length ≤ 1) && noneC r.cond)
  else bif r.kind == 5 then bareR r && (!r.names.isEmpty && (decide (r.names.length ≤ 64) && (r.rules.isEmpty && noneC r.cond)))
  else false
mutual
def shapeR : VRule → Bool
  | ⟨k, s, d, c, n, l⟩ => headR ⟨k, s, d, c, n, l⟩ && (n.all pathS && shapeRs l)
def shapeRs : List VRule → Bool
  | [] => true
  | r :: l => shapeR r && shapeRs l
end
theorem shapeRs_all (l : List VRule) : shapeRs l = l.all shapeR := by
  induction l with
  | nil => rw [shapeRs]; rfl
  | cons c l ih => rw [shapeRs, ih]; rfl
theorem shapeR_eq (r : VRule) : shapeR r = (headR r && (r.names.all pathS && r.rules.all shapeR)) := by
  obtain ⟨k, s, d, c, n, l⟩ := r
  rw [shapeR, shapeRs_all]

def condN (r : VRule) : Nat := bif r.kind == 3 then deepC r.cond else bif r.kind == 2 then (bif askB r.cond then 1 else 0) else 0
mutual
def deepR : VRule → Nat
  | ⟨k, s, d, c, n, l⟩ => bif k == 5 then 0 else max (1 + max (deepRs l) (mx (fun d => deepL d.value) d)) (max (selL s) (condN ⟨k, s, d, c, n, l⟩))
def deepRs : List VRule → Nat
  | [] => 0
  | r :: l => max (deepR r) (deepRs l)
end
theorem deepRs_mx (l : List VRule) : deepRs l = mx deepR l := by
  induction l with
  | nil => rw [deepRs]; rfl
  | cons c l ih => rw [deepRs, ih]; rfl
theorem deepR_eq (r : VRule) : deepR r = bif r.kind == 5 then 0 else max (1 + max (mx deepR r.rules) (mx (fun d => deepL d.value) r.decls)) (max (selL r.selectors) (condN r)) := by
  obtain ⟨k, s, d, c, n, l⟩ := r
  rw [deepR, deepRs_mx]
theorem mx_z {α : Type} {f : α → Nat} {g : α → List PV} : ∀ {l : List α}, (∀ v ∈ l, f v ≤ bCells (g v)) → mx f l ≤ zL g l
  | [], _ => Nat.zero_le _
  | v :: l, h => by
    rw [mx, zL_cons]
    have := h v List.mem_cons_self
    have := mx_z (l := l) (f := f) (g := g) fun w hw => h w (List.mem_cons_of_mem _ hw)
    omega
theorem decls_deep (l : List VDecl) : mx (fun d => deepL d.value) l ≤ zL enc_VDecl l :=
  mx_z fun d _ => by
    have := deepL_le d.value
    have := szL_zL d.value
    have := zDecl_eq d
    omega
theorem condN_le (r : VRule) : condN r ≤ 1 + bCells (enc_VCond r.cond) := by
  have := deepC_le r.cond
  unfold condN
  cases r.kind == 3 <;> cases r.kind == 2 <;> cases askB r.cond <;> simp only [cond_true, cond_false] <;> omega
theorem zRule_mem {r y : VRule} (h : y ∈ r.rules) : bCells (enc_VRule y) < bCells (enc_VRule r) := by
  have hz := zRule_eq r
  have := zL_mem (f := enc_VRule) h
  omega
theorem deepR_le : ∀ r : VRule, deepR r ≤ bCells (enc_VRule r) := by
  have key : ∀ (n : Nat) (r : VRule), bCells (enc_VRule r) < n → deepR r ≤ bCells (enc_VRule r) := by
    intro n
    induction n with
    | zero => intro c h; omega
    | succ n ih =>
      intro r h
      have hz := zRule_eq r
      have h1 : mx deepR r.rules ≤ zL enc_VRule r.rules := mx_z fun y hy => ih y (by have := zRule_mem hy; omega)
      have h2 := decls_deep r.decls
      have h3 := selL_le r.selectors
      have h4 := condN_le r
      rw [deepR_eq]
      cases r.kind == 5 <;> simp only [cond_true, cond_false] <;> omega
  exact fun c => key _ c (Nat.lt_succ_self _)
theorem rules_deep (l : List VRule) : mx deepR l ≤ zL enc_VRule l := mx_z fun y _ => deepR_le y
theorem eta_Rule (r : VRule) : (⟨r.kind, r.selectors, r.decls, r.cond, r.names, r.rules⟩ : VRule) = r := by cases r; rfl
end Go.Lv.VT

namespace Go.Lv.VT
theorem loopA {α R : Type} {step : Int → Option (LO Int Unit R)} {k : Unit → Option R} (l : List α) (p : α → Bool) (r : R)
    (hg : ∀ (i : Nat) (h : i < l.length), step (i : Int) = some (bif p l[i] then .again ((i + 1 : Nat) : Int) else .ret r))
    (hf : step (l.length : Int) = some (.out ())) : loopK step 0 k = bif l.all p then k () else some r := by
  refine (loopK_find l (fun v => bif p v then none else some r) () (fun i hi => ?_) hf).trans ?_
  · rw [hg i hi]
    cases p l[i] <;> rfl
  · rw [find_all]
    cases l.all p <;> rfl
theorem gt_zero {α : Type} (l : List α) : decide ((l.length : Int) > 0) = !l.isEmpty := pos_len l
theorem gt_one {α : Type} (l : List α) : decide ((l.length : Int) > 1) = !decide (l.length ≤ 1) := gt_not _ 1

theorem ref11_shaped_eq {r : VRule} (h : bCells (enc_VRule r) ≤ big) : ref11_shaped r = some (shapeR r) := by
  refine recE_meas (fun r => bCells (enc_VRule r)) (fun r => bCells (enc_VRule r) ≤ big) (fun r => shapeR r) (fun S r hr hS => ?_) h
  have hz := zRule_eq r
  have hcp := zCond_pos r.cond
  have hlr := zL_len zRule_pos r.rules
  have hld := zL_len zDecl_pos r.decls
  obtain ⟨hn1, hn2⟩ := zNames r.names
  have e32 : decide ((r.decls.length : Int) > 32) = !decide (r.decls.length ≤ 32) := gt_not _ 32
  have e64 : decide ((r.names.length : Int) > 64) = !decide (r.names.length ≤ 64) := gt_not _ 64
  unfold ref11_shaped_B
  have hrules : ∀ R : Type, ∀ f : R, loopK (fun (s16 : Int) =>
      bif decide (s16 < (r.rules.length : Int)) then
        (geti r.rules s16).bind fun y17 =>
        (S y17).bind fun y18 =>
        bif !y18 then
          some (LO.ret false)
        else
          some (LO.again (w64 (s16 + 1)))
      else
        some (LO.out ()) : Int → Option (LO (Int) (Unit) _)) 0 (fun _ => some true) = some (r.rules.all shapeR) := by
    intro R f
    refine (loopA r.rules shapeR false (fun i hi => ?_) ?_).trans ?_
    · have hm := zRule_mem (List.getElem_mem hi)
      simp only [lt_true hi, cond_true, geti_eq hi, Option.bind_some, hS r.rules[i] (show bCells (enc_VRule r.rules[i]) ≤ big by omega) hm, w64_succ hi (show r.rules.length ≤ big by omega)]
      cases shapeR r.rules[i] <;> rfl
    · simp only [lt_self, cond_false]
    · cases r.rules.all shapeR <;> rfl
  have hnames : ∀ b : Bool, loopK (fun (s12 : Int) =>
      bif decide (s12 < (r.names.length : Int)) then
        (geti r.names s12).bind fun y13 =>
        (ref11_pathed y13).bind fun y14 =>
        bif !y14 then
          some (LO.ret false)
        else
          some (LO.again (w64 (s12 + 1)))
      else
        some (LO.out ()) : Int → Option (LO (Int) (Unit) _)) 0 (fun _ => some b) = some (r.names.all pathS && b) := by
    intro b
    refine (loopA r.names pathS false (fun i hi => ?_) ?_).trans ?_
    · obtain ⟨g1, g2⟩ := hn2 _ (List.getElem_mem hi)
      have hp : ref11_pathed r.names[i] = some (pathS r.names[i]) := ref11_pathed_eq (by omega) (fun v hv => by have := g2 v hv; omega)
      simp only [lt_true hi, cond_true, geti_eq hi, Option.bind_some, hp, w64_succ hi (show r.names.length ≤ big by omega)]
      cases pathS r.names[i] <;> rfl
    · simp only [lt_self, cond_false]
    · cases r.names.all pathS <;> rfl
  simp only [bindO, eta_Rule, eta_Cond, hrules Unit (), hnames, ref08_Check_eq (show zL enc_VComplex r.selectors ≤ big by omega), ref11_none_eq, ref10_Medial_eq (show bCells (enc_VCond r.cond) ≤ big by omega), ref10_Supportive_eq (show bCells (enc_VCond r.cond) ≤ big by omega),
    condO_some, Option.bind_some, isEmpty_len, gt_zero, gt_one, not_nil_len, e32, e64, bne]
  rw [shapeR_eq]
  unfold headR bareR
  by_cases k1 : r.kind = 1
  · simp only [k1, Int.reduceBEq, cond_true]
    have hdecl : loopK (fun (s3 : Int) =>
              bif decide (s3 < (r.decls.length : Int)) then
                (geti r.decls s3).bind fun y4 =>
                (ref05_Check y4).bind fun y5 =>
                bif !(y5 == 0) then
                  some (LO.ret (LX.ret false))
                else
                  some (LO.again (w64 (s3 + 1)))
              else
                some (LO.out ()) : Int → Option (LO (Int) (Unit) (LX Unit Bool))) 0 (fun _ => some (LX.ret true)) = some (LX.ret (r.decls.all declS)) := by
      refine (loopA r.decls declS (LX.ret false) (fun i hi => ?_) ?_).trans ?_
      · have hm := zL_mem (f := enc_VDecl) (List.getElem_mem hi)
        simp only [lt_true hi, cond_true, geti_eq hi, Option.bind_some, ref05_Check_eq (show bCells (enc_VDecl r.decls[i]) ≤ big by omega), w64_succ hi (show r.decls.length ≤ big by omega)]
        cases declS r.decls[i] <;> rfl
      · simp only [lt_self, cond_false]
      · cases r.decls.all declS <;> rfl
    rw [hdecl]
    cases selS r.selectors == 0 with
    | false => rfl
    | true =>
      cases decide (r.decls.length ≤ 32) with
      | false => rfl
      | true =>
        cases noneC r.cond with
        | false => rfl
        | true =>
          cases hn : r.names with
          | cons a l => rfl
          | nil =>
            cases hl : r.rules with
            | cons a l => rfl
            | nil =>
              simp only [List.isEmpty_nil, List.all_nil, Bool.and_true, Bool.true_and, Bool.not_true, Bool.not_false, cond_true, cond_false]
              cases r.decls.all declS <;> rfl
  have b1 := beq_eq_false_iff_ne.2 k1
  simp only [b1, cond_false]
  clear hrules hnames
  by_cases k2 : r.kind = 2
  · simp only [k2, Int.reduceBEq, cond_true]
    cases r.selectors.isEmpty <;> cases r.decls.isEmpty <;> cases r.names.isEmpty <;> cases medialC r.cond <;> rfl
  have b2 := beq_eq_false_iff_ne.2 k2
  simp only [b2, cond_false]
  by_cases k3 : r.kind = 3
  · simp only [k3, Int.reduceBEq, cond_true]
    cases r.selectors.isEmpty <;> cases r.decls.isEmpty <;> cases r.names.isEmpty <;> cases supportC r.cond <;> rfl
  have b3 := beq_eq_false_iff_ne.2 k3
  simp only [b3, cond_false]
  by_cases k4 : r.kind = 4
  · simp only [k4, Int.reduceBEq, cond_true]
    cases r.selectors.isEmpty <;> cases r.decls.isEmpty <;> cases decide (r.names.length ≤ 1) <;> cases noneC r.cond <;> rfl
  have b4 := beq_eq_false_iff_ne.2 k4
  simp only [b4, cond_false]
  by_cases k5 : r.kind = 5
  · simp only [k5, Int.reduceBEq, cond_true]
    cases r.selectors.isEmpty <;> cases r.decls.isEmpty <;> cases r.names.isEmpty <;> cases decide (r.names.length ≤ 64) <;> cases r.rules.isEmpty <;> cases noneC r.cond <;> rfl
  have b5 := beq_eq_false_iff_ne.2 k5
  simp only [b5, cond_false]
  rfl

theorem none_list {c : VCond} (h : noneC c = true) : c.list = [] := by
  unfold noneC at h
  rw [Bool.and_eq_true, Bool.and_eq_true] at h
  exact List.isEmpty_iff.1 h.2.1
theorem conditioned_eq {r : VRule} (h : bCells (enc_VRule r) ≤ big) (hs : headR r = true) (h5 : (r.kind == 5) = false) : ref11_conditioned r = some (condN r : Int) := by
  have hz := zRule_eq r
  have hb : bCells (enc_VCond r.cond) ≤ big := by omega
  have hlen := zCond_list r.cond
  unfold ref11_conditioned condN
  cases h3 : r.kind == 3 with
  | true => simp only [cond_true, eta_Cond, ref10_Deep_eq hb, bindO, Option.bind_some]
  | false =>
    have := ref_asked (l := r.cond.list) (by omega) (fun y hy => by have := zCond_mem hy; omega)
    simp only [cond_false, bindO, eta_Cond]
    refine Eq.trans this ?_
    have hr : (r.cond.list.any fun y => (unw y).list.any fun z => z.kind != 4) = (bif r.kind == 2 then askB r.cond else false) := by
      unfold headR at hs
      rw [h3, h5] at hs
      by_cases k1 : r.kind = 1
      · rw [k1] at hs ⊢
        simp only [Int.reduceBEq, cond_true, Bool.and_eq_true] at hs
        rw [none_list hs.2.2.1]
        rfl
      have b1 := beq_eq_false_iff_ne.2 k1
      rw [b1] at hs
      cases h2 : r.kind == 2 with
      | true =>
        rw [h2] at hs
        simp only [cond_true, cond_false, Bool.and_eq_true] at hs
        rw [cond_true, medial_ask hs.2.2]
        rfl
      | false =>
        rw [h2] at hs
        cases h4 : r.kind == 4 with
        | true =>
          rw [h4] at hs
          simp only [cond_true, cond_false, Bool.and_eq_true] at hs
          rw [none_list hs.2.2]
          rfl
        | false =>
          rw [h4] at hs
          cases hs
    rw [hr]
    cases r.kind == 2 with
    | true => cases askB r.cond <;> rfl
    | false => rfl

theorem ref11_Deep_eq {l : List VRule} (h : zL enc_VRule l ≤ big) (hs : l.all shapeR = true) : ref11_Deep l = some (mx deepR l : Int) := by
  refine recE_meas (fun l => zL enc_VRule l) (fun l => zL enc_VRule l ≤ big ∧ l.all shapeR = true) (fun l => (mx deepR l : Int)) (fun S l hl hS => ?_) ⟨h, hs⟩
  obtain ⟨hl, hs⟩ := hl
  have hlen := zL_len zRule_pos l
  unfold ref11_Deep_B
  refine (loop_max l deepR (fun a i => ((a : Int), (i : Int))) (fun a => (a : Int)) (a0 := 0) rfl (fun i a hi => ?_) (fun a => ?_)).trans (by rw [Nat.zero_max])
  · have hm := zL_mem (f := enc_VRule) (List.getElem_mem hi)
    have hz := zRule_eq l[i]
    have hld := zL_len zDecl_pos l[i].decls
    have hsh := List.all_eq_true.1 hs _ (List.getElem_mem hi)
    have hd := deepR_eq l[i]
    rw [shapeR_eq, Bool.and_eq_true, Bool.and_eq_true] at hsh
    simp only [lt_true hi, cond_true, geti_eq hi, bindO, Option.bind_some]
    cases h5 : l[i].kind == 5 with
    | true =>
      rw [h5, cond_true] at hd
      simp only [cond_true, joinK_out, w64_succ hi (show l.length ≤ big by omega), hd, Nat.max_zero]
    | false =>
      rw [h5, cond_false] at hd
      have hrd := rules_deep l[i].rules
      have hdd := decls_deep l[i].decls
      rw [hS l[i].rules ⟨show zL enc_VRule l[i].rules ≤ big by omega, hsh.2.2⟩ (show zL enc_VRule l[i].rules < zL enc_VRule l by omega)]
      simp only [cond_false, Option.bind_some]
      have hdecl : ∀ (R : Type) (k : Int → Option R), loopK (fun (s5 : Int × Int) =>
                  bif decide (s5.2 < (l[i].decls.length : Int)) then
                    (geti l[i].decls s5.2).bind fun y8 =>
                    (ref04_Deep y8.value).bind fun y9 =>
                    some (LO.again (if y9 > s5.1 then y9 else s5.1, w64 (s5.2 + 1)))
                  else
                    some (LO.out s5.1) : Int × Int → Option (LO (Int × Int) (Int) _)) ((mx deepR l[i].rules : Int), 0) k = k ((max (mx deepR l[i].rules) (mx (fun d => deepL d.value) l[i].decls) : Nat) : Int) := by
        intro R k
        refine loop_max l[i].decls (fun d => deepL d.value) (fun a i => ((a : Int), (i : Int))) (fun a => (a : Int)) (a0 := mx deepR l[i].rules) rfl (fun j b hj => ?_) (fun b => ?_)
        · have hm2 := zL_mem (f := enc_VDecl) (List.getElem_mem hj)
          have hz2 := zDecl_eq l[i].decls[j]
          have hv := szL_zL l[i].decls[j].value
          simp only [lt_true hj, cond_true, geti_eq hj, Option.bind_some, ref_deep (show szL l[i].decls[j].value ≤ big by omega), w64_succ hj (show l[i].decls.length ≤ big by omega), max_if]
        · simp only [lt_self, cond_false]
      rw [hdecl]
      have hw : w64 (1 + ((max (mx deepR l[i].rules) (mx (fun d => deepL d.value) l[i].decls) : Nat) : Int)) = ((1 + max (mx deepR l[i].rules) (mx (fun d => deepL d.value) l[i].decls) : Nat) : Int) := by
        rw [w64_nat' (by omega), Nat.add_comm]
      simp only [eta_Cond, eta_Rule, ref11_selected_eq (show zL enc_VComplex l[i].selectors ≤ big by omega), conditioned_eq (show bCells (enc_VRule l[i]) ≤ big by omega) hsh.1 h5, Option.bind_some, joinK_out, hw, max_if, w64_succ hi (show l.length ≤ big by omega)]
      rw [hd]
      have : max (max (max a (1 + max (mx deepR l[i].rules) (mx (fun d => deepL d.value) l[i].decls))) (selL l[i].selectors)) (condN l[i]) = max a (max (1 + max (mx deepR l[i].rules) (mx (fun d => deepL d.value) l[i].decls)) (max (selL l[i].selectors) (condN l[i]))) := by omega
      rw [this]
  · simp only [lt_self, cond_false]

def sheetS (l : List VRule) : Bool := decide (numRs l ≤ 64) && (l.all shapeR && decide (mx deepR l ≤ 16))
theorem ref11_Valid_eq {l : List VRule} (h : zL enc_VRule l ≤ big) : ref11_Valid l = some (sheetS l) := by
  have hlen := zL_len zRule_pos l
  have e64 : decide ((numRs l : Int) > 64) = !decide (numRs l ≤ 64) := gt_not _ 64
  unfold ref11_Valid sheetS
  simp only [ref11_Number_eq h, bindO, Option.bind_some, e64]
  cases decide (numRs l ≤ 64) with
  | false => rfl
  | true =>
    simp only [Bool.not_true, cond_false, Bool.true_and]
    refine (loopA l shapeR false (fun i hi => ?_) ?_).trans ?_
    · have hm := zL_mem (f := enc_VRule) (List.getElem_mem hi)
      simp only [lt_true hi, cond_true, geti_eq hi, Option.bind_some, eta_Cond, eta_Rule, ref11_shaped_eq (show bCells (enc_VRule l[i]) ≤ big by omega), w64_succ hi (show l.length ≤ big by omega)]
      cases shapeR l[i] <;> rfl
    · simp only [lt_self, cond_false]
    · cases hs : l.all shapeR with
      | false => rfl
      | true =>
        have e16 : decide ((mx deepR l : Int) ≤ 16) = decide (mx deepR l ≤ 16) := le_not _ 16
        simp only [cond_true, ref11_Deep_eq h hs, Option.bind_some, e16, Bool.true_and]
theorem ref11_Check_eq {s : VSheet} (h : zL enc_VRule s.rules ≤ big) : ref11_Check s = some (bif sheetS s.rules then 0 else 8) := by
  unfold ref11_Check
  simp only [ref11_Valid_eq h, bindO, Option.bind_some]
  cases sheetS s.rules <;> rfl
theorem ref11_Count_eq {s : VSheet} (h : zL enc_VRule s.rules ≤ big) : ref11_Count s = some (bif sheetS s.rules then ((numRs s.rules : Int), 0) else (0, 8)) := by
  unfold ref11_Count
  simp only [ref11_Check_eq h, ref11_Number_eq h, bindO, Option.bind_some]
  cases sheetS s.rules <;> rfl
end Go.Lv.VT

namespace Go.Lv.VT
theorem loop_out {A S X R : Type} {step : S → Option (LO S X R)} (n : Nat) (st : Nat → A → S) (Inv : Nat → A → Prop) (Q : X → Prop) {s0 : S} {a0 : A} (h0 : s0 = st 0 a0) (hI : Inv 0 a0)
    (hg : ∀ (i : Nat) (a : A), i < n → Inv i a → ∃ a', step (st i a) = some (.again (st (i + 1) a')) ∧ Inv (i + 1) a')
    (hf : ∀ a, Inv n a → ∃ x, step (st n a) = some (.out x) ∧ Q x) : ∃ x, loopF step s0 = some (.out x) ∧ Q x := by
  have key : ∀ (m i : Nat) (a : A), i + m = n → Inv i a → ∃ j x, iterF step j (st i a) = some (.out x) ∧ Q x := by
    intro m
    induction m with
    | zero =>
      intro i a hi ha
      obtain rfl : i = n := by omega
      obtain ⟨x, h1, h2⟩ := hf a ha
      exact ⟨1, x, by simp only [iterF, h1], h2⟩
    | succ m ih =>
      intro i a hi ha
      obtain ⟨a', h1, h2⟩ := hg i a (by omega) ha
      obtain ⟨j, x, g1, g2⟩ := ih (i + 1) a' (by omega) h2
      exact ⟨j + 1, x, by simp only [iterF, h1]; exact g1, g2⟩
  obtain ⟨j, x, h1, h2⟩ := key n 0 a0 (by omega) hI
  exact ⟨x, by rw [h0]; exact loopF_of h1, h2⟩

theorem decls_prog {R : Type} {l : List VDecl} (h : zL enc_VDecl l ≤ big) (b0 : Bool) (f0 : Vsheet_found) :
    ∃ x : Bool × Vsheet_found, loopF (fun (s8 : (Bool × Int) × Vsheet_found) =>
                  bif decide (s8.1.2 < (l.length : Int)) then
                    (geti l s8.1.2).bind fun y9 =>
                    (nest_Depth y9.value).bind fun y10 =>
                    (condO (!(bif s8.1.1 then true else !(y10.2 == 0))) (decl_Check y9) (default : Int)).bind fun y11 =>
                    some (LO.again ((bif bif s8.1.1 then true else !(y10.2 == 0) then true else !(y11 == 0), w64 (s8.1.2 + 1)), (⟨s8.2.rules, if y10.1 > s8.2.depth then y10.1 else s8.2.depth, s8.2.bad⟩ : Vsheet_found)))
                  else
                    some (LO.out (s8.1.1, s8.2)) : (Bool × Int) × Vsheet_found → Option (LO ((Bool × Int) × Vsheet_found) (Bool × Vsheet_found) R)) ((b0, 0), f0) = some (.out x) ∧
      x.1 = (b0 || !l.all declS) ∧ x.2.rules = f0.rules ∧ ∀ n : Nat, f0.depth = (n : Int) → l.all declS = true → x.2.depth = ((max n (mx (fun d => deepL d.value) l) : Nat) : Int) := by
  have hlen := zL_len zDecl_pos l
  refine loop_out (A := Bool × Vsheet_found) l.length (fun i a => ((a.1, (i : Int)), a.2)) (fun i a => a.1 = (b0 || !(l.take i).all declS) ∧ a.2.rules = f0.rules ∧ ∀ n : Nat, f0.depth = (n : Int) → (l.take i).all declS = true → a.2.depth = ((max n (mx (fun d => deepL d.value) (l.take i)) : Nat) : Int)) _ (a0 := (b0, f0)) rfl
    ⟨by simp, rfl, fun n hn _ => by simp [mx, hn]⟩ (fun i a hi hI => ?_) (fun a hI => ?_)
  · obtain ⟨i1, i2, i3⟩ := hI
    have hm := zL_mem (f := enc_VDecl) (List.getElem_mem hi)
    have hz := zDecl_eq l[i]
    have hv := szL_zL l[i].value
    have hde : declS l[i] = (declS l[i] && (errS l[i].value == 0)) := by
      unfold declS
      cases nameD l[i].name <;> cases errS l[i].value == 0 <;> simp
    simp only [lt_true hi, cond_true, geti_eq hi, Option.bind_some, nest_depth (show szL l[i].value ≤ big by omega), decl_Check_eq (show bCells (enc_VDecl l[i]) ≤ big by omega), condO_some, w64_succ hi (show l.length ≤ big by omega)]
    refine ⟨(_, _), rfl, ?_, i2, fun n hn hall => ?_⟩
    · rw [all_take declS hi, i1]
      simp only
      by_cases he : errS l[i].value = 0
      · rw [if_pos he]
        cases b0 <;> cases (l.take i).all declS <;> cases declS l[i] <;> rfl
      · rw [if_neg he]
        have he' := beq_eq_false_iff_ne.2 he
        rw [he', Bool.and_false] at hde
        simp only [he', hde]
        cases b0 <;> cases (l.take i).all declS <;> rfl
    · rw [all_take declS hi, Bool.and_eq_true] at hall
      have hd := i3 n hn hall.1
      rw [hall.2, Bool.true_and] at hde
      have he : errS l[i].value = 0 := by rw [← beq_iff_eq, ← hde]
      rw [mx_take _ hi]
      simp only [if_pos he, hd, max_if]
      rw [Nat.max_assoc]
  · rw [List.take_length] at hI
    exact ⟨(a.1, a.2), by simp only [lt_self, cond_false], hI⟩

theorem decls_ex {R : Type} {l : List VDecl} (h : zL enc_VDecl l ≤ big) {b0 : Bool} {f0 : Vsheet_found} {k : Bool × Vsheet_found → Option R} (G : Option R → Prop)
    (hk : ∀ x : Bool × Vsheet_found, x.1 = (b0 || !l.all declS) → x.2.rules = f0.rules → (∀ n : Nat, f0.depth = (n : Int) → l.all declS = true → x.2.depth = ((max n (mx (fun d => deepL d.value) l) : Nat) : Int)) → G (k x)) :
    G (loopK (fun (s8 : (Bool × Int) × Vsheet_found) =>
                  bif decide (s8.1.2 < (l.length : Int)) then
                    (geti l s8.1.2).bind fun y9 =>
                    (nest_Depth y9.value).bind fun y10 =>
                    (condO (!(bif s8.1.1 then true else !(y10.2 == 0))) (decl_Check y9) (default : Int)).bind fun y11 =>
                    some (LO.again ((bif bif s8.1.1 then true else !(y10.2 == 0) then true else !(y11 == 0), w64 (s8.1.2 + 1)), (⟨s8.2.rules, if y10.1 > s8.2.depth then y10.1 else s8.2.depth, s8.2.bad⟩ : Vsheet_found)))
                  else
                    some (LO.out (s8.1.1, s8.2)) : (Bool × Int) × Vsheet_found → Option (LO ((Bool × Int) × Vsheet_found) (Bool × Vsheet_found) R)) ((b0, 0), f0) k) := by
  obtain ⟨x, hx, h1, h2, h3⟩ := decls_prog (R := R) h b0 f0
  rw [loopK_out hx]
  exact hk x h1 h2 h3
theorem joinK_ex {X R : Type} {m : Option (LX X R)} {k : X → Option R} (G : Option R → Prop) (P : X → Prop) (h : ∃ o, m = some (.out o) ∧ P o) (hk : ∀ o, P o → G (k o)) : G (joinK m k) := by
  obtain ⟨o, rfl, ho⟩ := h
  exact hk o ho

theorem sum_pos2 (a b : Nat) (h : a + b ≤ big) : decide (w64 ((a : Int) + (b : Int)) > 0) = !(decide (a = 0) && decide (b = 0)) := by
  rw [w64_add h]
  cases a with
  | zero => cases b with
    | zero => rfl
    | succ b => exact decide_eq_true (by omega)
  | succ a =>
    rw [decide_eq_true (by omega), decide_eq_false (show ¬ (a + 1 = 0) by omega)]
    rfl
theorem two_empty {α β : Type} (l : List α) (m : List β) (h : l.length + m.length ≤ big) : decide (w64 ((l.length : Int) + (m.length : Int)) > 0) = !(l.isEmpty && m.isEmpty) := by
  rw [sum_pos2 _ _ h]
  cases l <;> cases m <;> simp

theorem names_prog {l : List (List Str)} (hl : l.length ≤ big) (h : ∀ n ∈ l, n.length ≤ big) : slices_ContainsFunc_string l = some (!l.all pathS) := by
  unfold slices_ContainsFunc_string slices_IndexFunc_string
  refine fold_any (loop_idx l (fun c => !pathS c) hl (fun i hi => ?_) ?_) ((idxS_any _ _).trans (any_not _ _))
  · have : sheet_look_1 l[i] = some (!pathS l[i]) := by
      unfold sheet_look_1
      simp only [sheet_named_eq (h _ (List.getElem_mem hi)), bindO, Option.bind_some]
    simp only [lt_true hi, cond_true, geti_eq hi, bindO, Option.bind_some, this]
  · simp only [lt_self, cond_false]

def FoundR (l : List VRule) (y : Vsheet_found) : Prop := y.rules = (numRs l : Int) ∧ y.bad = !(l.all shapeR) ∧ (l.all shapeR = true → y.depth = (mx deepR l : Int))
theorem numRs_take {l : List VRule} {i : Nat} (hi : i < l.length) : numRs (l.take (i + 1)) = numRs (l.take i) + numR l[i] := by
  rw [numRs_sum, numRs_sum, sum_take numR hi]
theorem numRs_take_le (l : List VRule) (i : Nat) : numRs (l.take i) ≤ numRs l := by
  rw [numRs_sum, numRs_sum]
  exact sum_take_le numR l i

theorem sheet_look_rel {l : List VRule} (h : zL enc_VRule l ≤ big) : ∃ y, sheet_look l = some y ∧ FoundR l y := by
  refine recE_rel mono_sheet_look (fun l => zL enc_VRule l) (fun l => zL enc_VRule l ≤ big) FoundR (fun S l hl hS => ?_) h
  have hlen := zL_len zRule_pos l
  have hnl := numRs_le l
  unfold sheet_look_B
  refine loop_rel (A := Vsheet_found) l.length (fun i a => ((i : Int), a)) (fun i a => a.rules = (numRs (l.take i) : Int) ∧ a.bad = !((l.take i).all shapeR) ∧ ((l.take i).all shapeR = true → a.depth = (mx deepR (l.take i) : Int))) _ (a0 := ⟨0, 0, false⟩) rfl
    ⟨by simp [numRs], by simp, fun _ => by simp [mx]⟩ (fun i a hi hI => .inl ?_) (fun a hI => .inl ?_)
  · obtain ⟨i1, i2, i3⟩ := hI
    have hm := zL_mem (f := enc_VRule) (List.getElem_mem hi)
    have ht := numRs_take hi
    have ht2 := numRs_take_le l (i + 1)
    have hnr := numR_eq l[i]
    have hz := zRule_eq l[i]
    have hcp := zCond_pos l[i].cond
    have hls := zL_len zComplex_pos l[i].selectors
    have hld := zL_len zDecl_pos l[i].decls
    have hlr := zL_len zRule_pos l[i].rules
    have hrd := rules_deep l[i].rules
    obtain ⟨hn1, hn2⟩ := zNames l[i].names
    obtain ⟨f, hf1, hf2, hf3, hf4⟩ := hS l[i].rules (by omega) (by omega)
    have hnames := names_prog (l := l[i].names) (by omega) (fun n hn => by have := (hn2 n hn).1; omega)
    obtain ⟨told, htold1, htold2⟩ := sheet_told_rel (c := l[i].cond) (by omega)
    have e32 : decide ((l[i].decls.length : Int) > 32) = !decide (l[i].decls.length ≤ 32) := gt_not _ 32
    have e64 : decide ((l[i].names.length : Int) > 64) = !decide (l[i].names.length ≤ 64) := gt_not _ 64
    have hsh := shapeR_eq l[i]
    have hde := deepR_eq l[i]
    have hw1 : w64 (f.rules + 1) = ((numR l[i] : Nat) : Int) := by rw [hf2, hnr, w64_nat (by omega), Nat.add_comm]
    have hw2 : w64 (a.rules + ((numR l[i] : Nat) : Int)) = ((numRs (l.take (i + 1)) : Nat) : Int) := by rw [i1, w64_add (by omega), ht]
    -- what is to be shown of a round
    have fin : ∀ (o : (Int × Bool) × Vsheet_found × Vsheet_found), o.2.1 = ⟨((numRs (l.take (i + 1)) : Nat) : Int), a.depth, a.bad⟩ → o.1.2 = !(shapeR l[i]) → (shapeR l[i] = true → ∃ e n : Nat, o.1.1 = (e : Int) ∧ w64 (o.2.2.depth + 1) = (n : Int) ∧ max n e = deepR l[i]) →
        ∃ a' : Vsheet_found, (some (LO.again (w64 ((i : Int) + 1), (⟨o.2.1.rules, if o.1.1 > (if w64 (o.2.2.depth + 1) > o.2.1.depth then w64 (o.2.2.depth + 1) else o.2.1.depth) then o.1.1 else if w64 (o.2.2.depth + 1) > o.2.1.depth then w64 (o.2.2.depth + 1) else o.2.1.depth, bif o.2.1.bad then true else o.1.2⟩ : Vsheet_found))) : Option (LO (Int × Vsheet_found) Vsheet_found Vsheet_found)) = some (.again (((i + 1 : Nat) : Int), a')) ∧
          (a'.rules = (numRs (l.take (i + 1)) : Int) ∧ a'.bad = !((l.take (i + 1)).all shapeR) ∧ ((l.take (i + 1)).all shapeR = true → a'.depth = (mx deepR (l.take (i + 1)) : Int))) := by
      intro o ho1 ho2 ho3
      rw [w64_succ hi (show l.length ≤ big by omega)]
      refine ⟨_, rfl, ?_, ?_, fun hall => ?_⟩
      · simp only [ho1]
      · simp only [ho1]
        rw [all_take shapeR hi, i2, ho2]
        cases (l.take i).all shapeR <;> cases shapeR l[i] <;> rfl
      · rw [all_take shapeR hi, Bool.and_eq_true] at hall
        obtain ⟨e, n, h1, h2, h3⟩ := ho3 hall.2
        have hd := i3 hall.1
        simp only [ho1]
        rw [mx_take _ hi, h1, h2, hd, max_if, max_if, ← h3, Nat.max_assoc]
    simp only [lt_true hi, cond_true, geti_eq hi, bindO, Option.bind_some, hf1, hnames]
    refine joinK_ex (fun (q : Option (LO (Int × Vsheet_found) Vsheet_found Vsheet_found)) => ∃ a' : Vsheet_found, q = some (LO.again (((i + 1 : Nat) : Int), a')) ∧ (a'.rules = (numRs (l.take (i + 1)) : Int) ∧ a'.bad = !((l.take (i + 1)).all shapeR) ∧ ((l.take (i + 1)).all shapeR = true → a'.depth = (mx deepR (l.take (i + 1)) : Int))))
      (fun o => o.2.1 = ⟨((numRs (l.take (i + 1)) : Nat) : Int), a.depth, a.bad⟩ ∧ o.1.2 = !(shapeR l[i]) ∧ (shapeR l[i] = true → ∃ e n : Nat, o.1.1 = (e : Int) ∧ w64 (o.2.2.depth + 1) = (n : Int) ∧ max n e = deepR l[i])) ?_ (fun o ho => fin o ho.1 ho.2.1 ho.2.2)
    simp only [eta_Cond, sheet_empty_eq, sheet_selected_eq (show zL enc_VComplex l[i].selectors ≤ big by omega), seltext_Check_eq (show zL enc_VComplex l[i].selectors ≤ big by omega), Option.bind_some,
      sheet_asked_eq (show bCells (enc_VCond l[i].cond) ≤ big by omega), cond_CheckMedia_eq (show bCells (enc_VCond l[i].cond) ≤ big by omega), cond_CheckSupports_eq (show bCells (enc_VCond l[i].cond) ≤ big by omega), htold1, condO_some, e32, e64, hw1, hw2, hf3,
      two_empty l[i].selectors l[i].decls (by omega), two_empty l[i].names l[i].rules (by omega), gt_zero, gt_one, not_nil_len, bne]
    unfold headR bareR at hsh
    unfold condN at hde
    -- the depth of the rules in it
    have hdeep : l[i].rules.all shapeR = true → w64 (f.depth + 1) = ((mx deepR l[i].rules + 1 : Nat) : Int) := fun ha => by rw [hf4 ha, w64_nat (by omega)]
    have hnone : l[i].selectors.isEmpty = true → l[i].decls.isEmpty = true → selL l[i].selectors = 0 ∧ mx (fun d => deepL d.value) l[i].decls = 0 := fun h1 h2 => by
      rw [List.isEmpty_iff.1 h1, List.isEmpty_iff.1 h2]
      exact ⟨by rw [selL], rfl⟩
    by_cases k1 : l[i].kind = 1
    · simp only [k1, Int.reduceBEq, cond_true, cond_false] at hsh hde ⊢
      refine decls_ex (l := l[i].decls) (by omega) (fun (q : Option (LX ((Int × Bool) × Vsheet_found × Vsheet_found) (LO (Int × Vsheet_found) Vsheet_found Vsheet_found))) => ∃ o, q = some (LX.out o) ∧ (o.2.1 = ⟨((numRs (l.take (i + 1)) : Nat) : Int), a.depth, a.bad⟩ ∧ o.1.2 = !(shapeR l[i]) ∧ (shapeR l[i] = true → ∃ e n : Nat, o.1.1 = (e : Int) ∧ w64 (o.2.2.depth + 1) = (n : Int) ∧ max n e = deepR l[i]))) (fun x h1 h2 h3 => ⟨_, rfl, rfl, ?_, fun hok => ?_⟩)
      · simp only [h1, hsh]
        cases l[i].rules.all shapeR <;> cases l[i].names.all pathS <;> simp only [Bool.not_true, Bool.not_false, cond_true, cond_false] <;> cases selS l[i].selectors == 0 <;> cases decide (l[i].decls.length ≤ 32) <;> cases noneC l[i].cond <;> cases l[i].names.isEmpty <;> cases l[i].rules.isEmpty <;> cases l[i].decls.all declS <;> rfl
      · rw [hok] at hsh
        have hsh := hsh.symm
        simp only [Bool.and_eq_true] at hsh
        have hdl := decls_deep l[i].decls
        refine ⟨selL l[i].selectors, max (mx deepR l[i].rules) (mx (fun d => deepL d.value) l[i].decls) + 1, rfl, ?_, by rw [hde]; omega⟩
        simp only [h3 _ (hf4 hsh.2.2) hsh.1.2.2.2.2.2]
        rw [w64_nat (by omega)]
    have b1 := beq_eq_false_iff_ne.2 k1
    rw [b1] at hsh ⊢
    simp only [cond_false] at hsh ⊢
    by_cases k2 : l[i].kind = 2
    · simp only [k2, Int.reduceBEq, cond_true, cond_false] at hsh hde ⊢
      refine ⟨_, rfl, rfl, ?_, fun hok => ?_⟩
      · simp only [hsh]
        cases l[i].rules.all shapeR <;> cases l[i].names.all pathS <;> cases l[i].selectors.isEmpty <;> cases l[i].decls.isEmpty <;> cases l[i].names.isEmpty <;> cases medialC l[i].cond <;> rfl
      · rw [hok] at hsh
        have hsh := hsh.symm
        simp only [Bool.and_eq_true] at hsh
        obtain ⟨g1, g2⟩ := hnone hsh.1.1.1 hsh.1.1.2
        refine ⟨bif askB l[i].cond then 1 else 0, _, ?_, hdeep hsh.2.2, by rw [hde, g1, g2]; cases askB l[i].cond <;> simp only [cond_true, cond_false] <;> omega⟩
        cases askB l[i].cond <;> rfl
    have b2 := beq_eq_false_iff_ne.2 k2
    rw [b2] at hsh hde ⊢
    simp only [cond_false] at hsh hde ⊢
    by_cases k3 : l[i].kind = 3
    · simp only [k3, Int.reduceBEq, cond_true, cond_false] at hsh hde ⊢
      refine ⟨_, rfl, rfl, ?_, fun hok => ?_⟩
      · simp only [hsh]
        cases l[i].rules.all shapeR <;> cases l[i].names.all pathS <;> cases l[i].selectors.isEmpty <;> cases l[i].decls.isEmpty <;> cases l[i].names.isEmpty <;> cases supportC l[i].cond <;> rfl
      · rw [hok] at hsh
        have hsh := hsh.symm
        simp only [Bool.and_eq_true] at hsh
        obtain ⟨g1, g2⟩ := hnone hsh.1.1.1 hsh.1.1.2
        have hsup : supC l[i].cond = true := by
          have := hsh.1.2.2
          unfold supportC at this
          rw [Bool.and_eq_true] at this
          exact this.1
        refine ⟨deepC l[i].cond, _, htold2 hsup, hdeep hsh.2.2, by rw [hde, g1, g2]; omega⟩
    have b3 := beq_eq_false_iff_ne.2 k3
    rw [b3] at hsh hde ⊢
    simp only [cond_false] at hsh hde ⊢
    by_cases k4 : l[i].kind = 4
    · simp only [k4, Int.reduceBEq, cond_true, cond_false] at hsh hde ⊢
      refine ⟨_, rfl, rfl, ?_, fun hok => ?_⟩
      · simp only [hsh]
        cases l[i].rules.all shapeR <;> cases l[i].names.all pathS <;> cases l[i].selectors.isEmpty <;> cases l[i].decls.isEmpty <;> cases decide (l[i].names.length ≤ 1) <;> cases noneC l[i].cond <;> rfl
      · rw [hok] at hsh
        have hsh := hsh.symm
        simp only [Bool.and_eq_true] at hsh
        obtain ⟨g1, g2⟩ := hnone hsh.1.1.1 hsh.1.1.2
        exact ⟨0, _, rfl, hdeep hsh.2.2, by rw [hde, g1, g2]; omega⟩
    have b4 := beq_eq_false_iff_ne.2 k4
    rw [b4] at hsh ⊢
    simp only [cond_false] at hsh ⊢
    by_cases k5 : l[i].kind = 5
    · simp only [k5, Int.reduceBEq, cond_true, cond_false] at hsh hde ⊢
      refine ⟨_, rfl, rfl, ?_, fun hok => ?_⟩
      · simp only [hsh]
        have hn1 : decide ((l[i].names.length : Int) < 1) = l[i].names.isEmpty := not_nil_len _
        cases l[i].rules.all shapeR <;> cases l[i].names.all pathS <;> cases l[i].selectors.isEmpty <;> cases l[i].decls.isEmpty <;> cases l[i].names.isEmpty <;> cases decide (l[i].names.length ≤ 64) <;> cases l[i].rules.isEmpty <;> cases noneC l[i].cond <;> rfl
      · exact ⟨0, 0, rfl, rfl, by rw [hde]; rfl⟩
    have b5 := beq_eq_false_iff_ne.2 k5
    rw [b5] at hsh ⊢
    simp only [cond_false] at hsh ⊢
    refine ⟨_, rfl, rfl, by simp only [hsh]; rfl, fun hok => ?_⟩
    rw [hok] at hsh
    cases hsh
  · rw [List.take_length] at hI
    exact ⟨a, by simp only [lt_self, cond_false], a, rfl, hI⟩

theorem sheet_check_eq {l : List VRule} (h : zL enc_VRule l ≤ big) : sheet_check l = some (bif sheetS l then 0 else 8) := by
  obtain ⟨y, h1, h2, h3, h4⟩ := sheet_look_rel h
  have e64 : decide ((numRs l : Int) > 64) = !decide (numRs l ≤ 64) := gt_not _ 64
  have e16 : decide ((mx deepR l : Int) > 16) = !decide (mx deepR l ≤ 16) := gt_not _ 16
  unfold sheet_check sheetS
  simp only [h1, bindO, Option.bind_some, h2, h3, e64]
  cases hs : l.all shapeR with
  | false => cases decide (numRs l ≤ 64) <;> rfl
  | true =>
    rw [h4 hs, e16]
    cases decide (numRs l ≤ 64) <;> cases decide (mx deepR l ≤ 16) <;> rfl
theorem sheet_Count_eq {s : VSheet} (h : zL enc_VRule s.rules ≤ big) : sheet_Count s = some (bif sheetS s.rules then ((numRs s.rules : Int), 0) else (0, 8)) := by
  obtain ⟨y, h1, h2, h3, h4⟩ := sheet_look_rel h
  unfold sheet_Count sheet_Check
  simp only [h1, sheet_check_eq h, bindO, Option.bind_some, h2]
  cases sheetS s.rules <;> rfl

theorem law_SheetChecks {x : VSheet × VRule} (h1 : zL enc_VRule x.1.rules ≤ big) (h2 : bCells (enc_VRule x.2) ≤ big) : law11_SheetChecks x = some true := by
  have hb : zL enc_VRule [x.2] ≤ big := by rw [zL_cons, zL_nil]; omega
  obtain ⟨g1, hg1⟩ := ref11_Great_ex h1
  obtain ⟨g2, hg2⟩ := ref11_Great_ex hb
  unfold law11_SheetChecks
  simp only [eta_Cond, eta_Rule, hg1, hg2, bindO, Option.bind_some, condO_some]
  cases hg : (bif g1 then true else (bif !g1 then g2 else default)) with
  | true => rfl
  | false =>
    have hc : sheet_CheckRule x.2 = some (bif sheetS [x.2] then 0 else 8) := by
      unfold sheet_CheckRule
      simp only [eta_Cond, eta_Rule, sheet_check_eq hb, bindO, Option.bind_some]
    have hr : ref11_CheckRule x.2 = some (bif sheetS [x.2] then 0 else 8) := by
      unfold ref11_CheckRule
      simp only [eta_Cond, eta_Rule, ref11_Check_eq (s := ⟨[x.2]⟩) hb, bindO, Option.bind_some]
    have hk : sheet_Check x.1 = some (bif sheetS x.1.rules then 0 else 8) := by
      unfold sheet_Check
      simp only [sheet_check_eq h1, bindO, Option.bind_some]
    simp only [cond_false, sheet_Count_eq h1, ref11_Count_eq h1, hk, ref11_Check_eq h1, hc, hr, Option.bind_some, beq_self_eq_true, condO_true, cond_true]
end Go.Lv.VT
