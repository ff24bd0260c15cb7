/- Declarations: the program's check, and the reference's. -/
import Derived.Test.YtnfhfeipljhciaaGreatLaw
import Derived.Test.YtnfhfeipljhciaaGreatMo
namespace Go.Lv.VT
theorem zlj (v : zf) : (⟨v.token, v.list⟩ : zf) = v := by cases v; rfl
def znO (x : Str) : Bool := !(x == []) && (decide (x.length ≤ 64) && (Qf x && (bif List.isPrefixOf [45, 45] x then !(x == [45, 45]) else lowS x == x)))
theorem zte {x : Str} (h : x.length ≤ big) : zgN x = some (znO x) := by
 have e : decide ((x.length : Int) > 64) = !decide (x.length ≤ 64) := Q6 _ 64
 have e1 : decide (Lib.indexByte x (0 : Int).toNat.toUInt8 ≥ 0) = !Qf x := zpp x
 have ec := zkJ x (lowS x)
 unfold zgN znO
 simp only [zd9, zD, za, Option.bind_some, zf0, zg3 h, e, ec]
 cases x == [] <;> cases decide (x.length ≤ 64) <;> try rfl
 simp only [cond_true, cond_false, Bool.not_true, Bool.not_false, Bool.true_and, Bool.or_false, e1]
 cases Qf x <;> cases List.isPrefixOf [45, 45] x <;> rfl
theorem zyx (x : Str) : (bif decide ((x.length : Int) ≥ 2) then List.take 2 x == [45, 45] else false) = List.isPrefixOf [45, 45] x := by
 cases x with
 | nil => rfl
 | cons a x =>
  cases x with
  | nil => show (bif decide _ then _ else _) = ((45 == a) && false); rw [Bool.and_false]; rfl
  | cons b x =>
   have : decide ((((a :: b :: x : Str)).length : Int) ≥ 2) = true := decide_eq_true (by simp only [List.length_cons]; omega)
   rw [this]
   show ((a == 45) && ((b == 45) && true)) = ((45 == a) && ((45 == b) && true))
   rw [Bool.beq_comm (a := a), Bool.beq_comm (a := b)]
theorem zBf {x : Str} (h : List.isPrefixOf [45, 45] x = true) : decide ((x.length : Int) > 2) = !(x == [45, 45]) := by
 obtain ⟨t, rfl⟩ := List.isPrefixOf_iff_prefix.1 h
 cases t with
 | nil => rfl
 | cons a t =>
  have : decide ((([45, 45] ++ a :: t : Str).length : Int) > 2) = true := decide_eq_true (by simp only [List.length_append, List.length_cons]; omega)
  rw [this]; rfl
theorem zrL {x : Str} (h : x.length ≤ big) : zfC x = some (znO x) := by
 have e : decide ((x.length : Int) > 64) = !decide (x.length ≤ 64) := Q6 _ 64
 have en : decide ((x.length : Int) < 1) = (x == []) := by cases x with
  | nil => rfl
  | cons a x => exact decide_eq_false (by simp only [List.length_cons]; omega)
 have ec := zkJ x (lowS x)
 have hk : (need (decide ((2 : Int) ≤ (x.length : Int)) || !(decide ((x.length : Int) ≥ 2))) <|
   bif bif decide ((x.length : Int) ≥ 2) then List.take 2 x == [45, 45] else false then some (decide ((x.length : Int) > 2)) else za (ZZ x) fun y4 => some (x == y4)) = some (bif List.isPrefixOf [45, 45] x then !(x == [45, 45]) else lowS x == x) := by
  have e2 : (decide ((2 : Int) ≤ (x.length : Int)) || !(decide ((x.length : Int) ≥ 2))) = true := by
   show (decide _ || !decide ((2 : Int) ≤ _)) = true
   cases decide ((2 : Int) ≤ (x.length : Int)) <;> rfl
  rw [e2, ZT, zyx]
  cases hp : List.isPrefixOf [45, 45] x with
  | true => rw [cond_true, cond_true, zBf hp]
  | false => simp only [cond_false, ziY h, za, Option.bind_some, ec]
 unfold zfC znO
 rw [hk]
 have hl : ∀ b : Bool, zN (fun (s1 : Int) => bif decide (s1 < (x.length : Int)) then
    za (geti x s1) fun y2 => bif (y2.toNat : Int) == 0 then some (LO.ret false) else some (LO.again (w64 (s1 + 1)))
   else some (LO.out ()) : Int → Option (LO (Int) (Unit) _)) 0 (fun _ => some b) = some (Qf x && b) := by
  intro b
  refine (ZJ x (fun b => bif (!(b == 0)) then none else some false) () (fun i hi => ?_) ?_).trans ?_
  ·simp only [zM hi, cond_true, zH hi, za, Option.bind_some, byte_zero, zw hi h]
   cases x[i] == 0 <;> rfl
  ·simp only [zF, cond_false]
  ·rw [QV]
   unfold Qf
   cases x.all (fun b => !(b == 0)) <;> rfl
 rw [hl, e, en]
 cases x == [] <;> cases decide (x.length ≤ 64) <;> rfl
def clK (v : zf) : Bool := v.token.kind == 20 || (v.token.kind == 22 || v.token.kind == 24)
mutual
def clV : zf → Bool
 | ⟨t, l⟩ => clK ⟨t, l⟩ || clL l
def clL : List zf → Bool
 | [] => false
 | v :: r => clV v || clL r
end
theorem zDn (v : zf) : clV v = (clK v || clL v.list) := by obtain ⟨t, l⟩ := v; rw [clV]
theorem zz0 (l : List zf) : clL l = l.any clV := by
 induction l with
 | nil => rw [clL]; rfl
 | cons v l ih => rw [clL, ih]; rfl
theorem zpb {l : List zf} (h : szL l ≤ big) : zP l = some (clL l) := by
 refine Zg (fun l => szL l) (fun l => szL l ≤ big) (fun l => clL l) (fun S l hl hS => ?_) h
 have hlen := zcj l
 unfold zdE qB Qq
 have := zeJ (zeL (step := fun (s1 : Int) =>
   bif decide (s1 < (l.length : Int)) then
    za (geti l s1) fun y2 =>
    za (zaW S (⟨y2.token, y2.list⟩ : zf)) fun y3 =>
    bif y3 then some (LO.ret s1) else some (LO.again (w64 (s1 + 1)))
   else some (LO.out ())) l clV (by omega) (fun i hi => ?_) ?_) (zdG _ _)
 ·rw [this, zz0]; rfl
 ·have hsz := zet (List.getElem_mem hi)
  have hv2 := zhe l[i]
  have hs := hS l[i].list (by omega) (by omega)
  have : zaW S l[i] = some (clV l[i]) := by
   unfold zaW zbg
   simp only [zlj, zD, za, Option.bind_some, hs, zDn, clK]
   cases l[i].token.kind == 20 <;> cases l[i].token.kind == 22 <;> cases l[i].token.kind == 24 <;> rfl
  simp only [zM hi, cond_true, zH hi, za, Option.bind_some, zlj, this]
 ·simp only [zF, cond_false]
theorem znZ {l : List zf} (h : szL l ≤ big) : qz l = some (clL l) := by
 refine Zg (fun l => szL l) (fun l => szL l ≤ big) (fun l => clL l) (fun S l hl hS => ?_) h
 have hlen := zcj l
 unfold zc2
 refine (ZJ l (fun v => bif clV v then some true else none) () (fun i hi => ?_) ?_).trans ?_
 ·have hsz := zet (List.getElem_mem hi)
  have hv2 := zhe l[i]
  have hs := hS l[i].list (by omega) (by omega)
  simp only [zM hi, cond_true, zH hi, za, Option.bind_some, zDn, clK, zw hi (show l.length ≤ big by omega)]
  cases h1 : l[i].token.kind == 20 <;> cases h2 : l[i].token.kind == 22 <;> cases h3 : l[i].token.kind == 24 <;>
   first | rfl | (simp only [cond_false, Bool.not_false, zT, Option.bind_some, hs, Bool.false_or]; cases clL l[i].list <;> rfl)
 ·simp only [zF, cond_false]
 ·rw [zth, zz0]
  cases l.any clV <;> rfl
def zvu (l : List zf) : Bool := match l with
 | [] => false
 | v :: r => isSp v || isSp ((v :: r).getLast (by simp))
theorem zy0 (t : List zf) (v : zf) : zvu (t ++ [v]) = ((match t with | [] => isSp v | a :: _ => isSp a) || isSp v) := by
 cases t with
 | nil => rfl
 | cons a t =>
  show (isSp a || isSp ((a :: (t ++ [v])).getLast _)) = _
  congr 2
  have : (a :: (t ++ [v])) = (a :: t) ++ [v] := rfl
  simp only [this, List.getLast_append_of_ne_nil, List.getLast_singleton, ne_eq, reduceCtorEq, not_false_eq_true]
theorem zwI (l : List zf) : (trimB l).length ≤ l.length := (zBM l).length_le
theorem zzD (l : List zf) : ((trimS l).length == l.length) = !zvu l := by
 rcases zpP l with rfl | ⟨t, v, rfl⟩
 ·rfl
 ·rw [zy0]
  have hl : (t ++ [v]).length = t.length + 1 := by simp
  cases t with
  | nil =>
   show ((trimB (List.dropWhile isSp [v])).length == 1) = !(isSp v || isSp v)
   cases hv : isSp v with
   | true => simp only [List.dropWhile_cons, hv]; rfl
   | false =>
    simp only [List.dropWhile_cons, hv]
    have := zm2 [] v
    rw [hv] at this
    show ((trimB [v]).length == 1) = true
    rw [show trimB [v] = [v] from this]; rfl
  | cons a t =>
   show ((trimB (List.dropWhile isSp (a :: (t ++ [v])))).length == _) = !(isSp a || isSp v)
   have hb := zwI (List.dropWhile isSp (a :: (t ++ [v])))
   cases ha : isSp a with
   | true =>
    simp only [List.dropWhile_cons, ha, if_true] at hb ⊢
    have hd := (List.dropWhile_sublist isSp (l := t ++ [v])).length_le
    rw [Bool.true_or, Bool.not_true, beq_eq_false_iff_ne]
    rw [hl, List.length_cons]
    rw [List.length_append, List.length_singleton] at hd
    omega
   | false =>
    have e : List.dropWhile isSp (a :: (t ++ [v])) = (a :: t) ++ [v] := by
     rw [List.dropWhile_cons, ha]; rfl
    rw [e, zm2]
    cases hv : isSp v with
    | true =>
     have := zwI (a :: t)
     rw [if_pos rfl, Bool.or_true, Bool.not_true, beq_eq_false_iff_ne, hl]
     omega
    | false => simp
theorem zAk {l : List zf} (h : l.length ≤ big) (g : Bool) (hg : (l.isEmpty && g) = false) (k : Bool → Option Int) :
  (za (zz (decide ((l.length : Int) > 0) && !g) (geti l 0) (default : zf)) fun y7 =>
   za (zz (decide ((l.length : Int) > 0) && !g) (zbg ((⟨y7.token, y7.list⟩ : zf), 13)) (default : Bool)) fun y8 =>
   za (zz (!y8 && (decide ((l.length : Int) > 0) && !g)) (geti l (w64 ((l.length : Int) - 1))) (default : zf)) fun y9 =>
   za (zz (!y8 && (decide ((l.length : Int) > 0) && !g)) (zbg ((⟨y9.token, y9.list⟩ : zf), 13)) (default : Bool)) fun y10 =>
   k (bif decide ((l.length : Int) > 0) then bif y8 then true else y10 else false)) = (if g = true ∧ l ≠ [] then (k (bif decide ((l.length : Int) > 0) then bif (default : Bool) then true else (default : Bool) else false)) else k (zvu l)) := by
 cases l with
 | nil =>
  have : decide ((([] : List zf).length : Int) > 0) = false := rfl
  simp only [this, Bool.false_and, ZY, za, Option.bind_some, Bool.and_false, cond_false, ne_eq, not_true_eq_false, and_false, if_false, zvu]
 | cons v r =>
  have e1 : decide (((v :: r).length : Int) > 0) = true := decide_eq_true (by simp only [List.length_cons]; omega)
  have e2 : geti (v :: r) 0 = some v := rfl
  cases g with
  | true => simp only [e1, Bool.not_true, Bool.and_false, ZY, za, Option.bind_some, cond_true, ne_eq, reduceCtorEq, not_false_eq_true, and_self, if_true]
  | false =>
   simp only [e1, Bool.not_false, Bool.and_true, zT, za, Option.bind_some, cond_true, e2, zbg, false_and, if_false, reduceCtorEq]
   have e3 : w64 (((v :: r).length : Int) - 1) = (r.length : Int) := by
    rw [List.length_cons] at h ⊢
    rw [w64, ZL (by omega) (by unfold big at h; omega)]; omega
   have e4 : geti (v :: r) (r.length : Int) = some ((v :: r).getLast (by simp)) := by
    rw [zH (by simp), List.getLast_eq_getElem]
    simp
   rw [e3, e4]
   simp only [zD, Option.bind_some, zvu, isSp]
   cases v.token.kind == 13 <;> rfl
def badV (v : zf) : Bool := v.token.kind == 17 || (v.token.kind == 9 && v.token.text == [33])
def zzP (custom : Bool) (l : List zf) : Bool := !(l.any badV) && (!(l.isEmpty && !custom) && !zvu l)
def zbN (d : Zh) : Bool := znO d.name && (errS d.value == 0 && (gluS (tokL d.value) == 0 && (!clL d.value && zzP (List.isPrefixOf [45, 45] d.name) d.value)))
mutual
theorem zC9 : ∀ (v : zf) (t : zm), t ∈ tokV v → t.text.length ≤ szV v ∧ t.unit.length ≤ szV v
 | ⟨t, l⟩, u, h => by
  rw [tokV] at h
  rw [szV]
  rcases List.mem_cons.1 h with rfl | h
  ·constructor <;> omega
  ·split at h
   ·cases h
   ·rcases List.mem_append.1 h with h | h
    ·have := zow l u h; omega
    ·obtain rfl := List.mem_singleton.1 h
     exact ⟨Nat.zero_le _, Nat.zero_le _⟩
theorem zow : ∀ (l : List zf) (t : zm), t ∈ tokL l → t.text.length ≤ szL l ∧ t.unit.length ≤ szL l
 | [], _, h => by rw [tokL] at h; cases h
 | v :: r, u, h => by
  rw [tokL] at h
  rw [szL]
  rcases List.mem_append.1 h with h | h
  ·have := zC9 v u h; omega
  ·have := zow r u h; omega
end
theorem zCu {l : List zf} (h : szL l ≤ big) : zeZ (tokL l) = some (gluS (tokL l)) :=
 ztk fun t ht => by have := zow l t ht; omega
theorem zEa {l : List zf} (h : szL l ≤ big) : zdv (tokL l) = some (gluS (tokL l)) :=
 zrJ fun t ht => by have := zow l t ht; omega
theorem zuX {l : List zf} (h : l.length ≤ big) : ZH l = some (l.any badV) := by
 unfold ZH qH
 refine zeJ (zeL l badV h (fun i hi => ?_) ?_) (zdG _ _)
 ·have : zd6 l[i] = some (badV l[i]) := by
   unfold zd6 zle zbg badV
   simp only [zlj, zD, za, Option.bind_some]
   cases l[i].token.kind == 17 <;> cases l[i].token.kind == 9 <;> rfl
  simp only [zM hi, cond_true, zH hi, za, Option.bind_some, zlj, this]
 ·simp only [zF, cond_false]
theorem zld {d : Zh} (h : zt (Zc d) ≤ big) : zbt d = some (bif zbN d then 0 else 8) := by
 have hz := QL d
 have hs := zhd d.value
 have hv : szL d.value ≤ big := by omega
 have hlen := zcj d.value
 have hn : d.name.length ≤ big := by omega
 unfold zbt zbN
 rw [zvY hv]
 simp only [za, Option.bind_some, zte hn]
 cases znO d.name with
 | false => simp only [Bool.not_false, cond_true, Bool.not_true, ZY, Option.bind_some, Bool.false_and, cond_false]
 | true =>
  by_cases he : errS d.value = 0
  ·rw [if_pos he]
   have he' : (errS d.value == 0) = true := beq_iff_eq.2 he
   have this : ((0 : Int) == 0) = true := rfl
   simp only [he', this, Bool.not_true, cond_false, Bool.not_false, zT, zCu hv, Option.bind_some, Bool.true_and, bne]
   cases hg : gluS (tokL d.value) == 0 with
   | false => simp only [Bool.not_false, cond_true, Bool.not_true, ZY, Option.bind_some, Bool.false_and, cond_false]
   | true =>
    simp only [Bool.not_true, cond_false, Bool.not_false, zT, zpb hv, Option.bind_some, Bool.true_and]
    cases clL d.value with
    | true => rfl
    | false =>
     simp only [cond_false, zuX (show d.value.length ≤ big by omega), Option.bind_some, zzP, Bool.not_false, Bool.true_and]
     cases d.value.any badV with
     | true => rfl
     | false =>
      simp only [cond_false, zf0, zD, Option.bind_some, Zl, Bool.not_false, Bool.true_and]
      have hp := zAk (l := d.value) (by omega) (bif d.value.isEmpty then !(bif d.value.isEmpty then List.isPrefixOf [45, 45] d.name else default) else false)
      cases hd : d.value with
      | nil =>
       cases List.isPrefixOf [45, 45] d.name <;> rfl
      | cons v r =>
       have hp' := hp (by rw [hd]; rfl) (fun b => bif b then some 8 else some 0)
       rw [hd] at hp'
       simp only [List.isEmpty_cons, cond_false, Bool.false_eq_true, false_and, if_false] at hp'
       simp only [List.isEmpty_cons, cond_false, Bool.false_and, Bool.not_false, Bool.true_and]
       refine Eq.trans hp' ?_
       cases zvu (v :: r) <;> rfl
  ·rw [if_neg he]
   have he' : (errS d.value == 0) = false := beq_eq_false_iff_ne.2 he
   simp only [he', bne, Bool.not_true, cond_false, Bool.not_false, cond_true, ZY, Option.bind_some, Bool.false_and, Bool.and_false]
theorem zAb {x : Str} (hn : znO x = true) : zef x = some (List.isPrefixOf [45, 45] x) := by
 unfold zef
 have e2 : (decide ((2 : Int) ≤ (x.length : Int)) || !(decide ((x.length : Int) > 2))) = true := by
  by_cases h : 2 ≤ x.length
  ·rw [decide_eq_true (show (2 : Int) ≤ (x.length : Int) by omega)]; rfl
  ·rw [decide_eq_false (show ¬ ((x.length : Int) > 2) by omega)]; simp
 rw [zpO e2]
 have hp := zyx x
 cases hpp : List.isPrefixOf [45, 45] x with
 | true =>
  rw [hpp] at hp
  have h3 := zBf hpp
  unfold znO at hn
  rw [hpp] at hn
  simp only [cond_true, Bool.and_eq_true] at hn
  rw [hn.2.2.2] at h3
  rw [h3]
  have : decide ((x.length : Int) ≥ 2) = true := decide_eq_true (by have := of_decide_eq_true h3; omega)
  rw [this] at hp
  exact congrArg some hp
 | false =>
  rw [hpp] at hp
  cases h3 : decide ((x.length : Int) > 2) with
  | false => rfl
  | true =>
   have : decide ((x.length : Int) ≥ 2) = true := decide_eq_true (by have := of_decide_eq_true h3; omega)
   rw [this] at hp
   exact congrArg some hp
theorem zEh {α : Type} (a b : List α) : ((a.length : Int) == (b.length : Int)) = (a.length == b.length) := by
 rw [Bool.eq_iff_iff, beq_iff_eq, beq_iff_eq]; omega
theorem zqg {x : Str} {l : List zf} (h : szL l ≤ big) (hn : znO x = true) :
  zeg (x, l) = some (errS l == 0 && (gluS (tokL l) == 0 && (!clL l && zzP (List.isPrefixOf [45, 45] x) l))) := by
 have hlen := zcj l
 unfold zeg
 simp only [zBm h, zsF h, za, Option.bind_some, bne, zD]
 cases he : errS l == 0 with
 | false => simp only [Bool.not_false, cond_true, Bool.not_true, ZY, Option.bind_some, Bool.false_and, cond_false]
 | true =>
  simp only [Bool.not_true, cond_false, Bool.not_false, cond_true, zT, zEa h, Option.bind_some, Bool.true_and]
  cases hg : gluS (tokL l) == 0 with
  | false => simp only [Bool.not_false, cond_true, Bool.not_true, ZY, Option.bind_some, Bool.false_and, cond_false]
  | true =>
   simp only [Bool.not_true, cond_false, Bool.not_false, zT, znZ h, Option.bind_some, Bool.true_and]
   cases clL l with
   | true => rfl
   | false =>
    simp only [cond_false, zxH h, Option.bind_some, zEh, zzD, Zl, Bool.not_not, Bool.not_false, Bool.true_and, zAb hn, zD]
    have hl : zN (fun (s7 : Int) =>
     bif decide (s7 < (l.length : Int)) then
      za (geti l s7) fun y8 =>
      bif bif y8.token.kind == 17 then true else bif y8.token.kind == 9 then y8.token.text == [33] else false then
       some (LO.ret false)
      else
       some (LO.again (w64 (s7 + 1)))
     else
      some (LO.out ()) : Int → Option (LO (Int) (Unit) _)) 0 (fun _ => some true) = some (!(l.any badV)) := by
     refine (ZJ l (fun v => bif badV v then some false else none) () (fun i hi => ?_) ?_).trans ?_
     ·simp only [zM hi, cond_true, zH hi, za, Option.bind_some, badV, zw hi (show l.length ≤ big by omega)]
      cases l[i].token.kind == 17 <;> cases l[i].token.kind == 9 <;> cases l[i].token.text == [33] <;> rfl
     ·simp only [zF, cond_false]
     ·rw [zth]
      cases l.any badV <;> rfl
    unfold zzP
    simp only [za] at hl
    rw [hl]
    cases zvu l <;> cases l.isEmpty <;> cases List.isPrefixOf [45, 45] x <;> cases l.any badV <;> rfl
theorem zj9 {d : Zh} (h : zt (Zc d) ≤ big) : zbm d = some (bif zbN d then 0 else 8) := by
 have hz := QL d
 have hs := zhd d.value
 have hv : szL d.value ≤ big := by omega
 have hn : d.name.length ≤ big := by omega
 unfold zbm zbN
 simp only [zrL hn, za, Option.bind_some]
 cases hnd : znO d.name with
 | false => rfl
 | true =>
  simp only [Bool.not_true, Bool.not_false, zT, zqg hv hnd, Option.bind_some, Bool.true_and]
  cases (errS d.value == 0 && (gluS (tokL d.value) == 0 && (!clL d.value && zzP (List.isPrefixOf [45, 45] d.name) d.value))) <;> rfl
end Go.Lv.VT

namespace Go.Lv.VT
theorem zX (c : zk) : (⟨c.kind, c.name, c.num, c.decl, c.list⟩ : zk) = c := by cases c; rfl
def zg2 (d : Zh) : Bool := d.name == [] && (d.value.isEmpty && !d.important)
def zcF (c : zk) : Bool := c.name == [] && (c.num == 0 && zg2 c.decl)
theorem zat (c : zk) : QB c = some (zcF c) := by
 unfold QB zcF zg2
 rw [Zl]
 cases c.name == [] <;> cases c.num == 0 <;> cases c.decl.name == [] <;> cases c.decl.value.isEmpty <;> rfl
theorem zke (d : Zh) : zbp d = some (zg2 d) := by
 unfold zbp zg2
 rw [Zl]
 cases d.name == [] <;> cases d.value.isEmpty <;> rfl
theorem zaf (c : zk) : Z4 c = some (zcF c) := by
 unfold Z4 zcF
 simp only [zke, zD, za, Option.bind_some]
 cases c.name == [] <;> cases c.num == 0 <;> rfl
def keyS (x : Str) : Bool := x == [] || (x == [97, 110, 100] || (x == [111, 114] || (x == [110, 111, 116] || x == [111, 110, 108, 121])))
def medS (x : Str) : Bool := !keyS x && (decide (x.length ≤ 64) && (lowS x == x && Qf x))
theorem zlc (l : List Str) (x : Str) (h : l.length ≤ big) : slices_Contains_string (l, x) = some (l.any fun v => x == v) := by
 unfold slices_Contains_string slices_Index_string
 refine zeJ (zeL l (fun v => x == v) h (fun i hi => ?_) ?_) (zdG _ _)
 ·simp only [zM hi, cond_true, zH hi, za, Option.bind_some]
 ·simp only [zF, cond_false]
theorem zEf (x : Str) : (([[], [97, 110, 100], [111, 114], [110, 111, 116], [111, 110, 108, 121]] : List Str).any fun v => x == v) = keyS x := by
 simp only [List.any_cons, List.any_nil, Bool.or_false]
 rfl
theorem zq1 {x : Str} (h : x.length ≤ big) : zdk x = some (medS x) := by
 have e : decide ((x.length : Int) ≤ 64) = decide (x.length ≤ 64) := znz _ 64
 have e1 : decide (Lib.indexByte x (0 : Int).toNat.toUInt8 < 0) = Qf x := by rw [zAT, zpp, Bool.not_not]
 have hcs := zlc [[], [97, 110, 100], [111, 114], [110, 111, 116], [111, 110, 108, 121]] x (by decide)
 unfold zdk medS
 simp only [hcs, zEf, zg3 h, zd9, zD, za, Option.bind_some, e]
 cases keyS x <;> cases decide (x.length ≤ 64) <;> try rfl
 simp only [Bool.not_false, cond_true, Bool.true_and]
 cases lowS x == x
 ·rfl
 ·exact congrArg some e1
theorem zqj {x : Str} (h : x.length ≤ big) : zcz x = some (medS x) := by
 have e : decide ((x.length : Int) > 64) = !decide (x.length ≤ 64) := Q6 _ 64
 have ec := zkJ x (lowS x)
 unfold zcz medS
 simp only [ziY h, zD, za, Option.bind_some, e]
 have hl : zN (fun (s1 : Int) => bif decide (s1 < (x.length : Int)) then
    (geti x s1).bind fun y2 => bif (y2.toNat : Int) == 0 then some (LO.ret false) else some (LO.again (w64 (s1 + 1)))
   else some (LO.out ()) : Int → Option (LO (Int) (Unit) _)) 0 (fun _ => some true) = some (Qf x) := by
  refine (ZJ x (fun b => bif (!(b == 0)) then none else some false) () (fun i hi => ?_) ?_).trans ?_
  ·simp only [zM hi, cond_true, zH hi, Option.bind_some, byte_zero, zw hi h]
   cases x[i] == 0 <;> rfl
  ·simp only [zF, cond_false]
  ·rw [QV]
   unfold Qf
   cases x.all (fun b => !(b == 0)) <;> rfl
 rw [hl]
 unfold keyS
 cases x == [] <;> cases decide (x.length ≤ 64) <;> cases x == [97, 110, 100] <;> cases x == [111, 114] <;> cases x == [110, 111, 116] <;> cases x == [111, 110, 108, 121] <;>
  first | rfl | (simp only [cond_true, cond_false, Bool.or_false, Bool.not_false, Bool.not_true, Bool.true_and, ec]; cases lowS x == x <;> rfl)
def isN (n : Int) : Bool := decide (-1000000000000 ≤ n) && decide (n ≤ 1000000000000)
theorem zxF (n : Int) : zjj n = some (isN n) := by
 unfold zjj isN
 show some (bif decide (-1000000000000 ≤ n) then _ else _) = _
 cases decide (-1000000000000 ≤ n) <;> rfl
theorem zq7 (n : Int) : zdm n = some (bif isN n then 0 else 8) := by
 unfold zdm zhv
 have e1 : decide (n < -1000000000000) = !decide (-1000000000000 ≤ n) := by
  have := zyd n (-1000000000000)
  show _ = !decide (n ≥ _)
  rw [this, Bool.not_not]
 have e2 : decide (n > 1000000000000) = !decide (n ≤ 1000000000000) := by
  have := zyd 1000000000000 n
  show decide (1000000000000 < n) = !decide (1000000000000 ≥ n)
  rw [this, Bool.not_not]
 have : zN (fun (s1 : Int) =>
   bif decide (s1 < (([n] : List Int).length : Int)) then
    za (geti [n] s1) fun y2 =>
    bif bif decide (y2 < (-1000000000000)) then true else decide (y2 > 1000000000000) then
     some (LO.ret (8 : Int))
    else
     some (LO.again (w64 (s1 + 1)))
   else
    some (LO.out ()) : Int → Option (LO (Int) (Unit) Int)) 0 (fun o3 => some (0 : Int)) = some (bif isN n then 0 else 8) := by
  refine (ZJ [n] (fun n => bif isN n then none else some 8) () (fun i hi => ?_) ?_).trans ?_
  ·obtain rfl : i = 0 := by simpa using hi
   simp only [zM hi, cond_true, zH hi, za, Option.bind_some, List.getElem_cons_zero, e1, e2, isN]
   cases decide (-1000000000000 ≤ n) <;> cases decide (n ≤ 1000000000000) <;> rfl
  ·simp only [zF, cond_false]
  ·rw [QV]
   simp only [List.all_cons, List.all_nil, Bool.and_true]
   cases isN n <;> rfl
 rw [this]; rfl
def zmz (first : Bool) (y : zk) : Bool :=
 y.list.isEmpty && (zg2 y.decl && ((first && (y.kind == 4 && (y.num == 0 && medS y.name))) || ((y.kind == 5 || y.kind == 6) && (y.name == [] && (decide (0 ≤ y.num) && isN y.num)))))
def zpu (l : List zk) : Bool := (List.range l.length).all fun i => zmz (i == 0) (l.getD i default)
def ziT (c : zk) : Bool := c.kind == 1 && (zcF c && (!c.list.isEmpty && zpu c.list))
def zsz (c : zk) : Bool := match c.list with
 | [] => false
 | y :: _ => y.kind == 4
theorem zDh (i : Nat) : ((i : Int) == 0) = (i == 0) := by rw [Bool.eq_iff_iff, beq_iff_eq, beq_iff_eq]; omega
theorem zEn (i : Nat) : decide ((i : Int) > 0) = !(i == 0) := by
 cases i with
 | zero => rfl
 | succ i => exact decide_eq_true (by omega)
theorem zAB {c : zk} (h : zt (zq c) ≤ big) (i : Nat) (R : Type) (A : Option R) (k : Int → Option R) :
  (zZ (X := Int) (
       za (zz (!(decide ((c.list.length : Int) > 0))) (QB (⟨c.kind, [], 0, c.decl, c.list⟩ : zk)) (default : Bool)) fun y4 =>
       bif bif decide ((c.list.length : Int) > 0) then true else !y4 then
        A.map LX.ret
       else
        bif c.kind == 4 then
         za (zz (!(bif decide ((i : Int) > 0) then true else c.num != 0)) (zdk c.name) (default : Bool)) fun y5 =>
         bif bif bif decide ((i : Int) > 0) then true else c.num != 0 then true else !y5 then
          A.map LX.ret
         else
          some (LX.out (i : Int))
        else
         zZ (X := Bool) (
           bif c.kind == 5 then
            some (LX.out (c.kind == 5))
           else
            some (LX.out (c.kind == 6))) fun j6 =>
         bif j6 then
          za (zz (!(bif !(c.name == []) then true else decide (c.num < 0))) (zdm c.num) (default : Int)) fun y7 =>
          bif bif bif !(c.name == []) then true else decide (c.num < 0) then true else y7 != 0 then
           A.map LX.ret
          else
           some (LX.out (i : Int))
         else
          A.map LX.ret) k) = bif zmz (i == 0) c then k (i : Int) else A := by
 have hz := zdb c
 have hn : c.name.length ≤ big := by have := zaS c.decl; omega
 have hA : zZ (A.map LX.ret) k = A := by cases A <;> rfl
 have e1 : decide (c.num < 0) = !decide (0 ≤ c.num) := by
  have := zyd c.num 0
  show _ = !decide (c.num ≥ 0)
  rw [this, Bool.not_not]
 have e2 : ((bif isN c.num then (0 : Int) else 8) != 0) = !isN c.num := by cases isN c.num <;> rfl
 have eb : zcF ⟨c.kind, [], 0, c.decl, c.list⟩ = zg2 c.decl := rfl
 unfold zmz
 simp only [zat, eb, ziS, zD, za, Option.bind_some, zq1 hn, zq7, zEn i, e1, bne]
 cases c.list.isEmpty with
 | false => exact hA
 | true =>
  cases zg2 c.decl with
  | false => exact hA
  | true =>
   simp only [Bool.not_true, Bool.not_false, cond_true, cond_false, Bool.true_and]
   by_cases k4 : c.kind = 4
   ·simp only [k4, Int.reduceBEq, cond_true, Bool.or_false, Bool.false_and, Bool.true_and]
    cases (i == 0) <;> cases c.num == 0 <;> cases medS c.name <;> first | rfl | exact hA
   ·have b4 := beq_eq_false_iff_ne.2 k4
    simp only [b4, cond_false, Bool.false_and, Bool.and_false, Bool.false_or]
    by_cases k5 : c.kind = 5
    ·simp only [k5, Int.reduceBEq, cond_true, zJ, Bool.true_or, Bool.true_and]
     cases c.name == [] <;> cases decide (0 ≤ c.num) <;> cases isN c.num <;> first | rfl | exact hA
    ·have b5 := beq_eq_false_iff_ne.2 k5
     simp only [b5, cond_false, zJ, Bool.false_or]
     cases c.kind == 6
     ·exact hA
     ·cases c.name == [] <;> cases decide (0 ≤ c.num) <;> cases isN c.num <;> first | rfl | exact hA
theorem qf {c y : zk} (h : y ∈ c.list) : zt (zq y) < zt (zq c) := by
 have hz := zdb c
 have := ZA (f := zq) h
 have := zaS c.decl
 omega
theorem qh (c : zk) : c.list.length ≤ zt (zq c) := by
 have hz := zdb c
 have := Zm zmf c.list
 have := zaS c.decl
 omega
theorem zhg (c : zk) : zt (Zc c.decl) ≤ zt (zq c) := by
 have hz := zdb c
 omega
theorem zlb {c : zk} (h : zt (zq c) ≤ big) : zeY c = some (ziT c) := by
 have hlen := qh c
 unfold zeY ziT
 simp only [zX, zat, zD, za, Option.bind_some, Zl, bne]
 cases c.kind == 1 with
 | false => rfl
 | true =>
  cases zcF c with
  | false => rfl
  | true =>
   cases c.list.isEmpty with
   | true => rfl
   | false =>
    simp only [Bool.not_true, Bool.not_false, cond_true, cond_false, Bool.true_and]
    refine (zfp c.list.length (fun i => zmz (i == 0) (c.list.getD i default)) false (fun i hi => ?_) ?_).trans ?_
    ·have hm := qf (List.getElem_mem hi)
     have hgd : c.list.getD i default = c.list[i] := by simp [hi]
     have := zAB (c := c.list[i]) (by omega) i (LO Int Unit Bool) (some (LO.ret false)) fun j => some (.again (w64 (j + 1)))
     simp only [zat, zaf, zD, za, Option.bind_some, bne, Option.map_some] at this
     simp only [zM hi, cond_true, zH hi, Option.bind_some, hgd]
     refine this.trans ?_
     rw [zw hi (by omega)]
     cases zmz (i == 0) c.list[i] <;> rfl
    ·simp only [zF, cond_false]
    ·unfold zpu
     cases (List.range c.list.length).all fun i => zmz (i == 0) (c.list.getD i default) <;> rfl
theorem zCF {c : zk} (h : zt (zq c) ≤ big) (i : Nat) (R : Type) (A : Option R) (k : Int → Option R) :
  (zZ (X := Int) (
       za (zz (!(decide ((c.list.length : Int) > 0))) (zbp c.decl) (default : Bool)) fun y4 =>
       bif bif decide ((c.list.length : Int) > 0) then true else !y4 then
        A.map LX.ret
       else
        za (zz (bif bif (i : Int) == 0 then c.kind == 4 else false then c.num == 0 else false) (zcz c.name) (default : Bool)) fun y5 =>
        bif bif bif bif (i : Int) == 0 then c.kind == 4 else false then c.num == 0 else false then y5 else false then
         some (LX.out (i : Int))
        else
         za (zz (!(bif bif bif c.kind != 5 then c.kind != 6 else false then true else !(c.name == []) then true else decide (c.num < 0))) (zjj c.num) (default : Bool)) fun y6 =>
         bif bif bif bif bif c.kind != 5 then c.kind != 6 else false then true else !(c.name == []) then true else decide (c.num < 0) then true else !y6 then
          A.map LX.ret
         else
          some (LX.out (i : Int))) k) = bif zmz (i == 0) c then k (i : Int) else A := by
 have hz := zdb c
 have hn : c.name.length ≤ big := by have := zaS c.decl; omega
 have hA : zZ (A.map LX.ret) k = A := by cases A <;> rfl
 have e1 : decide (c.num < 0) = !decide (0 ≤ c.num) := by
  have := zyd c.num 0
  show _ = !decide (c.num ≥ 0)
  rw [this, Bool.not_not]
 unfold zmz
 simp only [zke, ziS, zD, za, Option.bind_some, zqj hn, zxF, zDh i, e1, bne]
 cases c.list.isEmpty with
 | false => exact hA
 | true =>
  cases zg2 c.decl with
  | false => exact hA
  | true =>
   simp only [Bool.not_true, Bool.not_false, cond_true, cond_false, Bool.true_and]
   by_cases k4 : c.kind = 4
   ·simp only [k4, Int.reduceBEq, cond_true, Bool.or_false, Bool.false_and, Bool.true_and, Bool.not_false, Bool.or_self]
    cases (i == 0) <;> cases c.num == 0 <;> cases medS c.name <;> first | rfl | exact hA
   ·have b4 := beq_eq_false_iff_ne.2 k4
    have hc : (bif bif (i == 0) then false else false then c.num == 0 else false) = false := by cases (i == 0) <;> rfl
    simp only [b4, hc, cond_false, Bool.false_and, Bool.and_false, Bool.false_or]
    cases c.kind == 5 <;> cases c.kind == 6 <;> cases c.name == [] <;> cases decide (0 ≤ c.num) <;> cases isN c.num <;> first | rfl | exact hA
theorem znE {c : zk} (h : zt (zq c) ≤ big) : zhb c = some (ziT c, ziT c && zsz c) := by
 have hlen := qh c
 unfold zhb ziT
 simp only [zX, zaf, zD, za, Option.bind_some, Zl, bne]
 cases c.kind == 1 with
 | false => rfl
 | true =>
  cases zcF c with
  | false => rfl
  | true =>
   cases he : c.list.isEmpty with
   | true => rfl
   | false =>
    simp only [Bool.not_true, Bool.not_false, cond_true, cond_false, Bool.true_and]
    refine (zfp c.list.length (fun i => zmz (i == 0) (c.list.getD i default)) (false, false) (fun i hi => ?_) ?_).trans ?_
    ·have hm := qf (List.getElem_mem hi)
     have hgd : c.list.getD i default = c.list[i] := by simp [hi]
     have := zCF (c := c.list[i]) (by omega) i (LO Int Unit (Bool × Bool)) (some (LO.ret (false, false))) fun j => some (.again (w64 (j + 1)))
     simp only [zat, zaf, zD, za, Option.bind_some, bne, Option.map_some] at this
     simp only [zM hi, cond_true, zH hi, Option.bind_some, hgd]
     refine this.trans ?_
     rw [zw hi (by omega)]
     cases zmz (i == 0) c.list[i] <;> rfl
    ·simp only [zF, cond_false]
    ·unfold zpu zsz
     cases hl : c.list with
     | nil => rw [hl] at he; cases he
     | cons y r =>
      have : geti (y :: r) 0 = some y := rfl
      simp only [this, Option.bind_some]
      cases (List.range (y :: r).length).all fun i => zmz (i == 0) ((y :: r).getD i default) <;> rfl
theorem zta (c : zk) : zgM c = some (zsz c) := by
 unfold zgM zsz
 cases c.list with
 | nil => rfl
 | cons y r =>
  have e1 : decide (((y :: r).length : Int) > 0) = true := decide_eq_true (by simp only [List.length_cons]; omega)
  have e2 : geti (y :: r) 0 = some y := rfl
  simp only [e1, e2, zT, za, Option.bind_some, cond_true]
def zkk (c : zk) : Bool := bif c.kind == 3 then zcF c && (match c.list with
 | [y] => ziT y && zsz y
 | _ => false) else ziT c
theorem zxo {α : Type} (y z : α) (r : List α) : (((y :: z :: r).length : Int) == 1) = false := beq_eq_false_iff_ne.2 (by simp only [List.length_cons]; omega)
theorem zvl {c : zk} (h : zt (zq c) ≤ big) : ziq c = some (zkk c) := by
 unfold ziq zkk
 simp only [zX, zat, za, Option.bind_some, zlb h, zta]
 cases c.kind == 3 with
 | false => rfl
 | true =>
  simp only [cond_true]
  cases zcF c with
  | false => rfl
  | true =>
   cases hl : c.list with
   | nil => rfl
   | cons y r =>
    cases r with
    | nil =>
     have hm := qf (c := c) (y := y) (by rw [hl]; exact List.mem_cons_self)
     have e2 : geti [y] 0 = some y := rfl
     have e3 : (([y] : List zk).length : Int) == 1 := rfl
     simp only [e2, e3, cond_true, zT, Option.bind_some, zlb (show zt (zq y) ≤ big by omega), Bool.true_and]
     cases ziT y
     ·rfl
     ·simp only [zT, Option.bind_some, cond_true, Bool.true_and]
    | cons z r =>
     simp only [zxo, cond_true, ZY, Option.bind_some, cond_false, Bool.and_false]
theorem zrQ {c : zk} (h : zt (zq c) ≤ big) : zdw c = some (zkk c) := by
 unfold zdw zkk
 simp only [zX, zaf, za, Option.bind_some, znE h, bne]
 cases c.kind == 3 with
 | false => rfl
 | true =>
  simp only [cond_true]
  cases zcF c with
  | false => rfl
  | true =>
   cases hl : c.list with
   | nil => rfl
   | cons y r =>
    cases r with
    | nil =>
     have hm := qf (c := c) (y := y) (by rw [hl]; exact List.mem_cons_self)
     have e2 : geti [y] 0 = some y := rfl
     have e3 : (([y] : List zk).length : Int) == 1 := rfl
     simp only [e2, e3, cond_false, Bool.not_true, Option.bind_some, znE (show zt (zq y) ≤ big by omega), Bool.true_and]
     cases ziT y <;> cases zsz y <;> rfl
    | cons z r =>
     simp only [zxo, Bool.not_true, Bool.not_false, cond_false, cond_true, Bool.and_false]
def zhB (c : zk) : Bool := zcF c && ((c.kind == 1 && c.list.isEmpty) || (c.kind == 2 && (!c.list.isEmpty && (decide (c.list.length ≤ 64) && c.list.all zkk))))
theorem ztb {l : List zk} (hl : l.length ≤ big) (h : ∀ c ∈ l, zt (zq c) ≤ big) : Z5 l = some (!l.all zkk) := by
 unfold Z5 QK
 refine zeJ (zeL l (fun c => !zkk c) hl (fun i hi => ?_) ?_) ((zdG _ _).trans (zmi _ _))
 ·have : Q4 l[i] = some (!zkk l[i]) := by
   unfold Q4
   simp only [zX, zvl (h _ (List.getElem_mem hi)), za, Option.bind_some]
  simp only [zM hi, cond_true, zH hi, za, Option.bind_some, zX, this]
 ·simp only [zF, cond_false]
theorem zla {c : zk} (h : zt (zq c) ≤ big) : zbf c = some (bif zhB c then 0 else 8) := by
 have hlen := qh c
 have e : decide ((c.list.length : Int) ≤ 64) = decide (c.list.length ≤ 64) := znz _ 64
 unfold zbf zhB
 simp only [zX, zat, ztb (show c.list.length ≤ big by omega) (fun y hy => by have := qf hy; omega), zD, za, Option.bind_some, ziS, Zl, e]
 have h12 : c.kind == 1 → c.kind == 2 → False := fun a b => by rw [beq_iff_eq] at a b; omega
 cases zcF c with
 | false => rfl
 | true =>
  cases c.kind == 1 <;> cases c.kind == 2 <;> cases c.list.isEmpty <;> cases decide (c.list.length ≤ 64) <;> cases c.list.all zkk <;> rfl
theorem zqi {c : zk} (h : zt (zq c) ≤ big) : zeh c = some (zhB c) := by
 have hlen := qh c
 have e : decide ((c.list.length : Int) > 64) = !decide (c.list.length ≤ 64) := Q6 _ 64
 unfold zeh zhB
 simp only [zX, zaf, za, Option.bind_some, zfr, Zl, e, bne]
 cases zcF c with
 | false => rfl
 | true =>
  simp only [Bool.not_true, cond_false, Bool.true_and]
  by_cases k1 : c.kind = 1
  ·simp only [k1, Int.reduceBEq, cond_true, Bool.true_and, Bool.false_and, Bool.or_false]
  ·have b1 := beq_eq_false_iff_ne.2 k1
   simp only [b1, cond_false, Bool.false_and, Bool.false_or]
   have hl : zN (fun (s2 : Int) =>
      bif decide (s2 < (c.list.length : Int)) then
       (geti c.list s2).bind fun y3 =>
       (zdw y3).bind fun y4 =>
       bif !y4 then
        some (LO.ret false)
       else
        some (LO.again (w64 (s2 + 1)))
      else
       some (LO.out ()) : Int → Option (LO (Int) (Unit) _)) 0 (fun _ => some true) = some (c.list.all zkk) := by
    refine (ZJ c.list (fun v => bif zkk v then none else some false) () (fun i hi => ?_) ?_).trans ?_
    ·have hm := qf (List.getElem_mem hi)
     simp only [zM hi, cond_true, zH hi, Option.bind_some, zrQ (show zt (zq c.list[i]) ≤ big by omega), zw hi (show c.list.length ≤ big by omega)]
     cases zkk c.list[i] <;> rfl
    ·simp only [zF, cond_false]
    ·rw [QV]
     cases c.list.all zkk <;> rfl
   rw [hl]
   cases c.kind == 2 <;> cases c.list.isEmpty <;> cases decide (c.list.length ≤ 64) <;> rfl
end Go.Lv.VT

namespace Go.Lv.VT
theorem zhQ {n : Nat} (h : n ≤ big) : w64 ((n : Int) + 1) = ((n + 1 : Nat) : Int) := by
 rw [w64, ZL (by omega) (by unfold big at h; omega)]; omega
theorem zuP {n : Nat} (h : n ≤ big) : w64 (1 + (n : Int)) = ((n + 1 : Nat) : Int) := by
 rw [w64, ZL (by omega) (by unfold big at h; omega)]; omega
theorem zge {α : Type} (f : α → Nat) : ∀ {l : List α} {i : Nat} (h : i < l.length), ((l.take (i + 1)).map f).sum = ((l.take i).map f).sum + f l[i]
 | [], _, h => by cases h
 | v :: l, 0, _ => by simp
 | v :: l, i + 1, h => by
  simp only [List.take_succ_cons, List.map_cons, List.sum_cons, List.getElem_cons_succ]
  rw [zge f (l := l) (i := i) (by simpa using h)]
  omega
theorem zfN {α : Type} (f : α → Nat) : ∀ (l : List α) (i : Nat), ((l.take i).map f).sum ≤ (l.map f).sum
 | [], _ => by simp
 | v :: l, 0 => by simp
 | v :: l, i + 1 => by
  simp only [List.take_succ_cons, List.map_cons, List.sum_cons]
  have := zfN f l i
  omega
theorem zpN {α : Type} (f : α → Nat) : ∀ {l : List α} {i : Nat} (h : i < l.length), mx f (l.take (i + 1)) = max (mx f (l.take i)) (f l[i])
 | [], _, h => by cases h
 | v :: l, 0, _ => by simp [mx]
 | v :: l, i + 1, h => by
  simp only [List.take_succ_cons, mx, List.getElem_cons_succ]
  rw [zpN f (l := l) (i := i) (by simpa using h)]
  omega
theorem zi9 {α : Type} (p : α → Bool) : ∀ {l : List α} {i : Nat} (h : i < l.length), (l.take (i + 1)).all p = ((l.take i).all p && p l[i])
 | [], _, h => by cases h
 | v :: l, 0, _ => by simp
 | v :: l, i + 1, h => by
  simp only [List.take_succ_cons, List.all_cons, List.getElem_cons_succ]
  rw [zi9 p (l := l) (i := i) (by simpa using h), Bool.and_assoc]
theorem zDH {α : Type} {p : α → Bool} {l : List α} {i : Nat} (h : i < l.length) (hp : p l[i] = false) : l.all p = false := by
 rw [List.all_eq_false]
 exact ⟨l[i], List.getElem_mem h, by rw [hp]; simp⟩
def ziG (c : zk) : Bool := c.kind == 0 && (c.list.isEmpty && zcF c)
theorem zrU (c : zk) : zch c = some (ziG c) := by
 unfold zch ziG zcF zg2
 rw [Zl, Zl]
 cases c.kind == 0 <;> cases c.name == [] <;> cases c.num == 0 <;> cases c.list.isEmpty <;> cases c.decl.name == [] <;> cases c.decl.value.isEmpty <;> rfl
theorem zC3 (l : List zf) : zad (l, []) = some l.isEmpty := by
 refine Zg (fun _ => 0) (fun x : List zf × List zf => x.2 = []) (fun x => x.1.isEmpty) (fun S x hx _ => ?_) (x := (l, [])) rfl
 obtain ⟨l, m⟩ := x
 obtain rfl : m = [] := hx
 unfold zee
 cases l with
 | nil =>
  refine (ZJ ([] : List zf) (fun _ => none) () (fun i hi => by cases hi) ?_).trans rfl
  simp only [List.length_nil, zF, cond_false]
 | cons v l =>
  have : (((v :: l).length : Int) != (([] : List zf).length : Int)) = true := bne_iff_ne.2 (by simp only [List.length_cons, List.length_nil]; omega)
  simp only [this, cond_true]; rfl
theorem zug (c : zk) : zdy c = some (ziG c) := by
 unfold zdy
 have : qF (c, (⟨0, [], 0, (⟨[], [], false⟩ : Zh), []⟩ : zk)) = some (ziG c) := by
  refine Zg (fun _ => 0) (fun x : zk × zk => x.2 = (⟨0, [], 0, (⟨[], [], false⟩ : Zh), []⟩ : zk)) (fun x => ziG x.1) (fun S x hx _ => ?_) (x := (c, _)) rfl
  obtain ⟨c, m⟩ := x
  obtain rfl : m = _ := hx
  have e5 : QR (c.decl, (⟨[], [], false⟩ : Zh)) = some (zg2 c.decl) := by
   unfold QR zg2
   simp only [zC3, zD, za, Option.bind_some]
   cases c.decl.name == [] <;> cases c.decl.important <;> cases c.decl.value.isEmpty <;> rfl
  have el : ((c.list.length : Int) != (([] : List zk).length : Int)) = !c.list.isEmpty := by rw [bne, List.length_nil, Int.natCast_zero, Zl]
  unfold zei ziG zcF
  simp only [e5, el, zD, za, Option.bind_some, bne]
  cases c.kind == 0 with
  | false => rfl
  | true =>
   cases hl : c.list with
   | cons y r => cases c.name == [] <;> cases c.num == 0 <;> cases zg2 c.decl <;> rfl
   | nil =>
    cases c.name == [] <;> cases c.num == 0 <;> cases zg2 c.decl <;> try rfl
    refine (ZJ ([] : List zk) (fun _ => none) () (fun i hi => by cases hi) ?_).trans rfl
    simp only [List.length_nil, zF, cond_false]
 simp only [zX, this, za, Option.bind_some]
mutual
def sizC : zk → Nat
 | ⟨_, _, _, _, l⟩ => 1 + zqz l
def zqz : List zk → Nat
 | [] => 0
 | c :: r => sizC c + zqz r
end
theorem zwC (l : List zk) : zqz l = (l.map sizC).sum := by
 induction l with
 | nil => rw [zqz]; rfl
 | cons c l ih => rw [zqz, ih]; rfl
theorem zxQ (c : zk) : sizC c = 1 + (c.list.map sizC).sum := by
 obtain ⟨k, n, m, d, l⟩ := c
 rw [sizC, zwC]
theorem zC4 : ∀ l : List zk, zqz l ≤ zL zq l := by
 have key : ∀ (n : Nat) (l : List zk), zL zq l < n → zqz l ≤ zL zq l := by
  intro n
  induction n with
  | zero => intro l h; omega
  | succ n ih =>
   intro l
   induction l with
   | nil => intro _; rw [zqz]; exact Nat.zero_le _
   | cons v l ihl =>
    intro h
    rw [qX] at h ⊢
    rw [zqz, zxQ, ← zwC]
    have hz := zdb v
    have hd := zaS v.decl
    have h1 := ih v.list (by omega)
    have h2 := ihl (by omega)
    omega
 exact fun l => key _ l (Nat.lt_succ_self _)
theorem zBA (c : zk) : sizC c ≤ zt (zq c) := by
 have := zC4 [c]
 rw [zqz, zqz, qX, zqY] at this
 omega
theorem zkd {c : zk} {m : Nat} (h : zt (zq c) ≤ big) (hm : m ≤ big) :
  ∃ r : Nat, qg (c, (m : Int)) = some (r : Int) ∧ r ≤ sizC c ∧ (sizC c ≤ m → r = sizC c) ∧ (m < sizC c → m < r) := by
 have key : ∃ y : Int, qg (c, (m : Int)) = some y ∧ ∃ r : Nat, y = (r : Int) ∧ r ≤ sizC c ∧ ∀ m' : Nat, (m : Int) = (m' : Int) → (sizC c ≤ m' → r = sizC c) ∧ (m' < sizC c → m' < r) := by
  refine zf2 zpI (fun x : zk × Int => zt (zq x.1)) (fun x => zt (zq x.1) ≤ big ∧ ∃ m : Nat, x.2 = (m : Int) ∧ m ≤ big)
   (fun x (y : Int) => ∃ r : Nat, y = (r : Int) ∧ r ≤ sizC x.1 ∧ ∀ m' : Nat, x.2 = (m' : Int) → (sizC x.1 ≤ m' → r = sizC x.1) ∧ (m' < sizC x.1 → m' < r)) (fun S x hx hS => ?_) (x := (c, (m : Int))) ⟨h, m, rfl, hm⟩
  obtain ⟨c, n⟩ := x
  obtain ⟨hc, m, hn, hm⟩ := hx
  have hn : n = (m : Int) := hn
  have hc : zt (zq c) ≤ big := hc
  subst hn
  have hlen := qh c
  have hsz := zBA c
  have he := zxQ c
  unfold zcx
  have hw : ∀ a : Nat, a ≤ big → w64 ((a : Int) + 0) = (a : Int) := fun a ha => by rw [w64, ZL (by omega) (by unfold big at ha; omega)]; omega
  refine zlt (A := Nat) c.list.length (fun i a => ((a : Int), (i : Int))) (fun i a => a ≤ 1 + ((c.list.take i).map sizC).sum ∧ (1 + ((c.list.take i).map sizC).sum ≤ m → a = 1 + ((c.list.take i).map sizC).sum) ∧ (m < 1 + ((c.list.take i).map sizC).sum → m < a)) _ (a0 := 1) rfl (by simp) (fun i a hi hI => ?_) (fun a hI => .inl ?_)
  ·obtain ⟨i1, i2, i3⟩ := hI
   have ht := zfN sizC c.list i
   have ht1 := zfN sizC c.list (i + 1)
   rw [zge sizC hi] at ht1
   have hmm := qf (List.getElem_mem hi)
   by_cases ham : a ≤ m
   ·have ha : a = 1 + ((c.list.take i).map sizC).sum := i2 (by omega)
    have e1 : decide ((a : Int) ≤ (m : Int)) = true := decide_eq_true (by omega)
    have hw2 : w64 ((m : Int) - (a : Int)) = ((m - a : Nat) : Int) := by rw [w64, ZL (by omega) (by unfold big at hm; omega)]; omega
    obtain ⟨y, hy1, r, hy2, hy3, hy4⟩ := hS (c.list[i], ((m - a : Nat) : Int)) ⟨by show zt (zq c.list[i]) ≤ big; omega, m - a, rfl, by omega⟩ hmm
    have hy3 : r ≤ sizC c.list[i] := hy3
    obtain ⟨hy5, hy6⟩ := hy4 (m - a) rfl
    have hy5 : sizC c.list[i] ≤ m - a → r = sizC c.list[i] := hy5
    have hy6 : m - a < sizC c.list[i] → m - a < r := hy6
    have hw3 : w64 ((a : Int) + (r : Int)) = ((a + r : Nat) : Int) := zm8 (by omega)
    refine .inl ⟨a + r, ?_, ?_, ?_, ?_⟩
    ·simp only [zM hi, e1, cond_true, zH hi, za, Option.bind_some, zX, hw2, hy1, hy2, hw3, zw hi (show c.list.length ≤ big by omega)]
    ·rw [zge sizC hi]; omega
    ·rw [zge sizC hi]; omega
    ·rw [zge sizC hi]; omega
   ·have e1 : decide ((a : Int) ≤ (m : Int)) = false := decide_eq_false (by omega)
    refine .inr (.inr ⟨(a : Int), ?_, (a : Int), rfl, a, rfl, ?_, fun m' hm' => ⟨fun h => ?_, fun h => ?_⟩⟩)
    ·simp only [zM hi, e1, cond_true, cond_false]
    ·show a ≤ sizC c; omega
    ·have hm' : (m : Int) = (m' : Int) := hm'
     have h : sizC c ≤ m' := h
     show a = sizC c; omega
    ·have hm' : (m : Int) = (m' : Int) := hm'
     show m' < a; omega
  ·rw [List.take_length] at hI
   obtain ⟨i1, i2, i3⟩ := hI
   refine ⟨(a : Int), ?_, (a : Int), rfl, a, rfl, ?_, fun m' hm' => ⟨fun h => ?_, fun h => ?_⟩⟩
   ·simp only [zF, cond_false]
   ·show a ≤ sizC c; omega
   ·have hm' : (m : Int) = (m' : Int) := hm'
    have h : sizC c ≤ m' := h
    show a = sizC c; omega
   ·have hm' : (m : Int) = (m' : Int) := hm'
    have h : m' < sizC c := h
    show m' < a; omega
 obtain ⟨y, h1, r, rfl, h2, h3⟩ := key
 exact ⟨r, h1, h2, h3 m rfl⟩
def zh3 (c : zk) : Bool := c.kind == 7 || c.kind == 8
mutual
def zbO : zk → Nat
 | ⟨k, _, _, d, l⟩ => bif k == 7 then 1 + qO d.value else bif k == 8 then 1 else zvr l
def zvr : List zk → Nat
 | [] => 0
 | c :: r => max ((bif zh3 c then 0 else 1) + zbO c) (zvr r)
end
def zjz (c : zk) : Nat := (bif zh3 c then 0 else 1) + zbO c
theorem zAg (l : List zk) : zvr l = mx zjz l := by
 induction l with
 | nil => rw [zvr]; rfl
 | cons c l ih => rw [zvr, ih]; rfl
theorem zod (c : zk) : zbO c = bif c.kind == 7 then 1 + qO c.decl.value else bif c.kind == 8 then 1 else mx zjz c.list := by
 obtain ⟨k, n, m, d, l⟩ := c
 rw [zbO, zAg]
theorem zoe : ∀ c : zk, zbO c ≤ zt (zq c) := by
 have key : ∀ (n : Nat) (c : zk), zt (zq c) < n → zbO c ≤ zt (zq c) := by
  intro n
  induction n with
  | zero => intro c h; omega
  | succ n ih =>
   intro c h
   have hz := zdb c
   have hd := QL c.decl
   rw [zod]
   cases c.kind == 7 with
   | true =>
    have h1 := zeG c.decl.value
    have h2 := zhd c.decl.value
    simp only [cond_true]; omega
   | false =>
    cases c.kind == 8 with
    | true => simp only [cond_true, cond_false]; omega
    | false =>
     simp only [cond_false]
     have : ∀ l : List zk, (∀ y ∈ l, y ∈ c.list) → mx zjz l ≤ 1 + zL zq l := by
      intro l
      induction l with
      | nil => intro _; exact Nat.zero_le _
      | cons y l ihl =>
       intro hl
       have h1 := ihl fun z hz => hl z (List.mem_cons_of_mem _ hz)
       have h2 := qf (hl y List.mem_cons_self)
       have h3 := ih y (by omega)
       have h4 : zjz y ≤ 1 + zbO y := by unfold zjz; cases zh3 y <;> simp only [cond_true, cond_false] <;> omega
       rw [mx, qX]
       omega
     have := this c.list fun _ h => h
     omega
 exact fun c => key _ c (Nat.lt_succ_self _)
theorem zlU {c : zk} (h : zt (zq c) ≤ big) : Qw c = some (zbO c : Int) := by
 refine Zg (fun c => zt (zq c)) (fun c => zt (zq c) ≤ big) (fun c => (zbO c : Int)) (fun S c hc hS => ?_) h
 have hz := zdb c
 have hd := QL c.decl
 have hlen := qh c
 have hv := zhd c.decl.value
 unfold zf7
 rw [zod]
 cases h7 : c.kind == 7 with
 | true =>
  have h1 := zeG c.decl.value
  simp only [cond_true, zor (show szL c.decl.value ≤ big by omega), za, Option.bind_some, zuP (show qO c.decl.value ≤ big by omega)]
  rw [Nat.add_comm]
 | false =>
  cases h8 : c.kind == 8 with
  | true => rfl
  | false =>
   simp only [cond_false]
   refine (zeM c.list zjz (fun a i => ((a : Int), (i : Int))) (fun a => (a : Int)) (a0 := 0) rfl (fun i a hi => ?_) (fun a => ?_)).trans ?_
   ·have hm := qf (List.getElem_mem hi)
    have hs := hS c.list[i] (by omega) hm
    have hst := zoe c.list[i]
    simp only [zM hi, cond_true, zH hi, za, Option.bind_some, zX, hs, zw hi (show c.list.length ≤ big by omega)]
    have hlf : (bif c.list[i].kind == 7 then true else c.list[i].kind == 8) = zh3 c.list[i] := by unfold zh3; cases c.list[i].kind == 7 <;> rfl
    rw [hlf]
    have hst' : zjz c.list[i] = (bif zh3 c.list[i] then 0 else 1) + zbO c.list[i] := rfl
    cases hlc : zh3 c.list[i] with
    | true =>
     rw [hlc, cond_true, Nat.zero_add] at hst'
     have hw : w64 (0 + (zbO c.list[i] : Int)) = (zjz c.list[i] : Int) := by rw [w64, ZL (by omega) (by unfold big at hc; omega)]; omega
     simp only [cond_true, zJ, hw, zgV]
    | false =>
     rw [hlc, cond_false] at hst'
     have hw : w64 (1 + (zbO c.list[i] : Int)) = (zjz c.list[i] : Int) := by rw [w64, ZL (by omega) (by unfold big at hc; omega)]; omega
     simp only [cond_false, zJ, hw, zgV]
   ·simp only [zF, cond_false]
   ·rw [Nat.zero_max]
mutual
def supC : zk → Bool
 | ⟨k, n, m, d, l⟩ => bif k == 7 then l.isEmpty && (n == [] && (m == 0 && zbN d)) else bif k == 8 then l.isEmpty && zcF ⟨k, n, m, d, l⟩ else
  (k == 3 || (k == 1 || k == 2)) && (zcF ⟨k, n, m, d, l⟩ && ((bif k == 3 then l.length == 1 else decide (2 ≤ l.length)) && zBE l))
def zBE : List zk → Bool
 | [] => true
 | c :: r => supC c && zBE r
end
theorem zBF (l : List zk) : zBE l = l.all supC := by
 induction l with
 | nil => rw [zBE]; rfl
 | cons c l ih => rw [zBE, ih]; rfl
theorem zxS (c : zk) : supC c = bif c.kind == 7 then c.list.isEmpty && (c.name == [] && (c.num == 0 && zbN c.decl)) else bif c.kind == 8 then c.list.isEmpty && zcF c else
  (c.kind == 3 || (c.kind == 1 || c.kind == 2)) && (zcF c && ((bif c.kind == 3 then c.list.length == 1 else decide (2 ≤ c.list.length)) && c.list.all supC)) := by
 obtain ⟨k, n, m, d, l⟩ := c
 rw [supC, zBF]
theorem zDr {α : Type} (l : List α) : decide ((l.length : Int) < 2) = !decide (2 ≤ l.length) := by
 by_cases h : 2 ≤ l.length
 ·rw [decide_eq_true h, decide_eq_false (by omega)]; rfl
 ·rw [decide_eq_false h, decide_eq_true (by omega)]; rfl
theorem zym {α : Type} (l : List α) : ((l.length : Int) == 1) = (l.length == 1) := by rw [Bool.eq_iff_iff, beq_iff_eq, beq_iff_eq]; omega
theorem zlV {c : zk} (h : zt (zq c) ≤ big) : ZB c = some (supC c) := by
 refine Zg (fun c => zt (zq c)) (fun c => zt (zq c) ≤ big) (fun c => supC c) (fun S c hc hS => ?_) h
 have hlen := qh c
 have hd := zhg c
 unfold zbz
 rw [zxS]
 simp only [zX, zaf, zj9 (show zt (Zc c.decl) ≤ big by omega), Zl, zD, za, Option.bind_some]
 cases h7 : c.kind == 7 with
 | true =>
  simp only [cond_true]
  cases c.name == [] <;> cases c.num == 0 <;> cases c.list.isEmpty <;> cases zbN c.decl <;> rfl
 | false =>
  cases h8 : c.kind == 8 with
  | true =>
   simp only [cond_true, cond_false]
   cases zcF c <;> cases c.list.isEmpty <;> rfl
  | false =>
   simp only [cond_false]
   cases h3 : c.kind == 3 with
   | true =>
    simp only [cond_true, Bool.true_or, Bool.true_and, zym]
    cases zcF c with
    | false => rfl
    | true =>
     cases hl : c.list with
     | nil => rfl
     | cons y r =>
      cases r with
      | nil =>
       have hm := qf (c := c) (y := y) (by rw [hl]; exact List.mem_cons_self)
       have e2 : geti [y] 0 = some y := rfl
       have e3 : (([y] : List zk).length == 1) = true := rfl
       simp only [e2, e3, cond_true, zT, Option.bind_some, hS y (show zt (zq y) ≤ big by omega) hm, Bool.true_and, List.all_cons, List.all_nil, Bool.and_true]
      | cons z r =>
       have e3 : ((y :: z :: r).length == 1) = false := by simp
       simp only [e3, cond_true, ZY, Option.bind_some, cond_false, Bool.false_and, Bool.and_false]
   | false =>
    have hj : ∀ {R : Type} (k : Bool → Option R), zZ (X := Bool) (bif c.kind == 1 then some (LX.out (c.kind == 1)) else some (LX.out (c.kind == 2))) k = k (c.kind == 1 || c.kind == 2) := by
     intro R k
     cases c.kind == 1 <;> rfl
    simp only [cond_false, Bool.false_or]
    rw [hj]
    cases (c.kind == 1 || c.kind == 2) with
    | false => rfl
    | true =>
     simp only [cond_true, zDr, Bool.true_and]
     have hl : zN (fun (s8 : Int) =>
        bif decide (s8 < (c.list.length : Int)) then
         (geti c.list s8).bind fun y9 =>
         (S y9).bind fun y10 =>
         bif !y10 then
          some (LO.ret false)
         else
          some (LO.again (w64 (s8 + 1)))
        else
         some (LO.out ()) : Int → Option (LO (Int) (Unit) _)) 0 (fun _ => some true) = some (c.list.all supC) := by
      refine (ZJ c.list (fun v => bif supC v then none else some false) () (fun i hi => ?_) ?_).trans ?_
      ·have hm := qf (List.getElem_mem hi)
       simp only [zM hi, cond_true, zH hi, Option.bind_some, hS _ (show zt (zq c.list[i]) ≤ big by omega) hm, zw hi (show c.list.length ≤ big by omega)]
       cases supC c.list[i] <;> rfl
      ·simp only [zF, cond_false]
      ·rw [QV]
       cases c.list.all supC <;> rfl
     rw [hl]
     cases zcF c <;> cases decide (2 ≤ c.list.length) <;> rfl
theorem zvm (c : zk) : zir c = some (zh3 c) := by
 unfold zir zh3
 cases c.kind == 7 <;> rfl
theorem zs9 {c : zk} {m : Nat} (h : zt (zq c) ≤ big) (hm : m ≤ 1500) :
  ∃ y : (Int × Bool) × Int, Q5 (c, (m : Int)) = some y ∧ y.1.2 = (supC c && decide (m + sizC c ≤ 1500)) ∧ (y.1.2 = true → y.1.1 = (zbO c : Int) ∧ y.2 = ((m + sizC c : Nat) : Int)) := by
 have key : ∃ y : (Int × Bool) × Int, Q5 (c, (m : Int)) = some y ∧ ∀ m' : Nat, (m : Int) = (m' : Int) → y.1.2 = (supC c && decide (m' + sizC c ≤ 1500)) ∧ (y.1.2 = true → y.1.1 = (zbO c : Int) ∧ y.2 = ((m' + sizC c : Nat) : Int)) := by
  refine zf2 zrf (fun x : zk × Int => zt (zq x.1)) (fun x => zt (zq x.1) ≤ big ∧ ∃ m : Nat, x.2 = (m : Int) ∧ m ≤ 1500)
   (fun x (y : (Int × Bool) × Int) => ∀ m' : Nat, x.2 = (m' : Int) → y.1.2 = (supC x.1 && decide (m' + sizC x.1 ≤ 1500)) ∧ (y.1.2 = true → y.1.1 = (zbO x.1 : Int) ∧ y.2 = ((m' + sizC x.1 : Nat) : Int))) (fun S x hx hS => ?_) (x := (c, (m : Int))) ⟨h, m, rfl, hm⟩
  obtain ⟨c, n⟩ := x
  obtain ⟨hc, m, hn, hm⟩ := hx
  have hn : n = (m : Int) := hn
  have hc : zt (zq c) ≤ big := hc
  subst hn
  have hlen := qh c
  have hd := zhg c
  have hsz := zBA c
  have he := zxQ c
  have hv := zhd c.decl.value
  have hzd := QL c.decl
  have fin : ∀ (d : Int) (b : Bool) (n : Int), b = (supC c && decide (m + sizC c ≤ 1500)) → (b = true → d = (zbO c : Int) ∧ n = ((m + sizC c : Nat) : Int)) →
    ∀ m' : Nat, (m : Int) = (m' : Int) → b = (supC c && decide (m' + sizC c ≤ 1500)) ∧ (b = true → d = (zbO c : Int) ∧ n = ((m' + sizC c : Nat) : Int)) := by
   intro d b n h1 h2 m' hm'
   obtain rfl : m = m' := by omega
   exact ⟨h1, h2⟩
  have hw : w64 ((m : Int) + 1) = ((m + 1 : Nat) : Int) := zhQ (by unfold big; omega)
  unfold zdj
  simp only [hw, zX]
  by_cases hm1 : m + 1 > 1500
  ·have e1 : decide (((m + 1 : Nat) : Int) > 1500) = true := decide_eq_true (by omega)
   simp only [e1, cond_true]
   have e2 : decide (m + sizC c ≤ 1500) = false := decide_eq_false (by omega)
   exact ⟨_, rfl, fin _ _ _ (by rw [e2, Bool.and_false]) (fun h => by cases h)⟩
  have e1 : decide (((m + 1 : Nat) : Int) > 1500) = false := decide_eq_false (by omega)
  simp only [e1, cond_false]
  have hs := zxS c
  have hdp := zod c
  cases h7 : c.kind == 7 with
  | true =>
   rw [h7] at hs hdp
   simp only [cond_true] at hs hdp ⊢
   rw [zmH (show szL c.decl.value ≤ big by omega), zld (show zt (Zc c.decl) ≤ big by omega)]
   simp only [za, Option.bind_some, Zl, zD]
   refine ⟨_, rfl, fin _ _ _ ?_ ?_⟩
   ·rw [hs]
    have hde : zbN c.decl = (zbN c.decl && (errS c.decl.value == 0)) := by
     unfold zbN
     cases znO c.decl.name <;> cases errS c.decl.value == 0 <;> simp
    cases hle : c.list.isEmpty with
    | false => rfl
    | true =>
     have hl : c.list = [] := List.isEmpty_iff.1 hle
     rw [hl] at he
     have e2 : decide (m + sizC c ≤ 1500) = true := decide_eq_true (by rw [he]; simp; omega)
     rw [e2]
     by_cases her : errS c.decl.value = 0
     ·rw [if_pos her]
      cases c.name == [] <;> cases c.num == 0 <;> cases zbN c.decl <;> rfl
     ·rw [if_neg her]
      have her' := beq_eq_false_iff_ne.2 her
      rw [her', Bool.and_false] at hde
      rw [hde]
      simp only [her']
      cases c.name == [] <;> cases c.num == 0 <;> rfl
   ·intro hf
    have her : errS c.decl.value = 0 := by
     by_cases her : errS c.decl.value = 0
     ·exact her
     ·rw [if_neg her] at hf
      have her' := beq_eq_false_iff_ne.2 her
      simp only [her'] at hf
      revert hf
      cases c.list.isEmpty <;> cases c.name == [] <;> cases c.num == 0 <;> intro h <;> cases h
    have hl : c.list = [] := by
     cases hle : c.list.isEmpty with
     | true => exact List.isEmpty_iff.1 hle
     | false => rw [hle] at hf; cases hf
    have h1 := zeG c.decl.value
    rw [if_pos her, hdp]
    rw [hl] at he
    simp only [zhQ (show qO c.decl.value ≤ big by omega)]
    refine ⟨by rw [Nat.add_comm], ?_⟩
    rw [he]; rfl
  | false =>
   rw [h7] at hs hdp
   simp only [cond_false] at hs hdp ⊢
   cases h8 : c.kind == 8 with
   | true =>
    rw [h8] at hs hdp
    simp only [cond_true] at hs hdp ⊢
    simp only [za, Option.bind_some, Zl, zD, zat]
    refine ⟨_, rfl, fin _ _ _ ?_ ?_⟩
    ·rw [hs]
     cases hle : c.list.isEmpty with
     | false => rfl
     | true =>
      have hl : c.list = [] := List.isEmpty_iff.1 hle
      rw [hl] at he
      have e2 : decide (m + sizC c ≤ 1500) = true := decide_eq_true (by rw [he]; simp; omega)
      rw [e2]
      cases zcF c <;> rfl
    ·intro hf
     have hl : c.list = [] := by
      cases hle : c.list.isEmpty with
      | true => exact List.isEmpty_iff.1 hle
      | false => rw [hle] at hf; cases hf
     rw [hl] at he
     rw [hdp, he]
     exact ⟨rfl, rfl⟩
   | false =>
    rw [h8] at hs hdp
    simp only [cond_false] at hs hdp ⊢
    have hj : ∀ {R : Type} (k : Bool → Option R), zZ (X := Bool) (bif c.kind == 3 then some (LX.out (c.kind == 3)) else bif c.kind == 1 then some (LX.out (c.kind == 1)) else some (LX.out (c.kind == 2))) k = k (c.kind == 3 || (c.kind == 1 || c.kind == 2)) := by
     intro R k
     cases c.kind == 3 <;> cases c.kind == 1 <;> rfl
    rw [hj]
    cases hk : (c.kind == 3 || (c.kind == 1 || c.kind == 2)) with
    | false =>
     rw [hk] at hs
     exact ⟨_, rfl, fin _ _ _ (by rw [hs]; rfl) (fun h => by cases h)⟩
    | true =>
     rw [hk] at hs
     simp only [cond_true, Bool.true_and] at hs ⊢
     have hg : (bif bif !zcF c then true else bif c.kind == 3 then (c.list.length : Int) != 1 else false then true else bif c.kind != 3 then decide ((c.list.length : Int) < 2) else false) = !(zcF c && (bif c.kind == 3 then c.list.length == 1 else decide (2 ≤ c.list.length))) := by
      rw [zDr, bne, bne, zym]
      cases zcF c <;> cases c.kind == 3 <;> cases c.list.length == 1 <;> rfl
     simp only [zat, za, Option.bind_some, hg]
     cases hb : (zcF c && (bif c.kind == 3 then c.list.length == 1 else decide (2 ≤ c.list.length))) with
     | false =>
      rw [← Bool.and_assoc, hb] at hs
      exact ⟨_, rfl, fin _ _ _ (by rw [hs]; rfl) (fun h => by cases h)⟩
     | true =>
      rw [← Bool.and_assoc, hb, Bool.true_and] at hs
      simp only [Bool.not_true, cond_false]
      refine zlt (A := Nat × Nat) c.list.length (fun i a => (((a.1 : Int), (i : Int)), (a.2 : Int))) (fun i a => a.2 = m + 1 + ((c.list.take i).map sizC).sum ∧ a.2 ≤ 1500 ∧ a.1 = mx zjz (c.list.take i) ∧ (c.list.take i).all supC = true) _ (a0 := (0, m + 1)) rfl ⟨by simp, by show m + 1 ≤ 1500; omega, by simp [mx], by simp⟩ (fun i a hi hI => ?_) (fun a hI => .inl ?_)
      ·obtain ⟨i1, i2, i3, i4⟩ := hI
       have ht := zfN sizC c.list (i + 1)
       rw [zge sizC hi] at ht
       have hmm := qf (List.getElem_mem hi)
       obtain ⟨y, hy1, hy2⟩ := hS (c.list[i], (a.2 : Int)) ⟨by show zt (zq c.list[i]) ≤ big; omega, a.2, rfl, i2⟩ hmm
       obtain ⟨hy3, hy4⟩ := hy2 a.2 rfl
       have hy3 : y.1.2 = (supC c.list[i] && decide (a.2 + sizC c.list[i] ≤ 1500)) := hy3
       simp only [zM hi, cond_true, zH hi, Option.bind_some, zX, hy1]
       cases hf : y.1.2 with
       | false =>
        refine .inr (.inl ⟨_, rfl, fin _ _ _ ?_ (fun h => by cases h)⟩)
        rw [hf] at hy3
        cases hsi : supC c.list[i] with
        | false => rw [hs, zDH hi hsi]; rfl
        | true =>
         rw [hsi, Bool.true_and] at hy3
         have := of_decide_eq_false hy3.symm
         have e2 : decide (m + sizC c ≤ 1500) = false := decide_eq_false (by omega)
         rw [e2, Bool.and_false]
       | true =>
        obtain ⟨hy5, hy6⟩ := hy4 hf
        rw [hf] at hy3
        have hy3 := hy3.symm
        rw [Bool.and_eq_true] at hy3
        have hle := of_decide_eq_true hy3.2
        have hdl := zoe c.list[i]
        have hy5 : y.1.1 = (zbO c.list[i] : Int) := hy5
        have hy6 : y.2 = ((a.2 + sizC c.list[i] : Nat) : Int) := hy6
        refine .inl ⟨(max a.1 (zjz c.list[i]), a.2 + sizC c.list[i]), ?_, ?_, hle, ?_, ?_⟩
        ·have hst : zjz c.list[i] = (bif zh3 c.list[i] then 0 else 1) + zbO c.list[i] := rfl
         have hw2 := zhQ (n := zbO c.list[i]) (by omega)
         simp only [Bool.not_true, cond_false, zvm, Option.bind_some, hy5, hy6, hw2, zw hi (show c.list.length ≤ big by omega)]
         cases hlf : zh3 c.list[i] with
         | true =>
          rw [hlf] at hst
          rw [cond_true, Nat.zero_add] at hst
          simp only [Bool.not_true, cond_false, zJ, hst, zgV]
         | false =>
          rw [hlf] at hst
          rw [cond_false, Nat.add_comm] at hst
          simp only [Bool.not_false, cond_true, zJ, hst, zgV]
        ·rw [zge sizC hi, i1]; show _ + _ + _ + _ = _; omega
        ·rw [zpN zjz hi, i3]
        ·rw [zi9 supC hi, i4, hy3.1]; rfl
      ·rw [List.take_length] at hI
       obtain ⟨i1, i2, i3, i4⟩ := hI
       refine ⟨((a.1 : Int), (a.2 : Int)), ?_, _, rfl, fin _ _ _ ?_ (fun _ => ⟨?_, ?_⟩)⟩
       ·simp only [zF, cond_false]
       ·have e2 : decide (m + sizC c ≤ 1500) = true := decide_eq_true (by omega)
        rw [hs, i4, e2]; rfl
       ·rw [hdp, i3]
       ·show (a.2 : Int) = _
        rw [i1, he]; congr 1; omega
 obtain ⟨y, h1, h2⟩ := key
 exact ⟨y, h1, h2 m rfl⟩
def zgf (c : zk) : Bool := supC c && (decide (sizC c ≤ 1500) && decide (zbO c ≤ 16))
theorem zio {c : zk} (h : zt (zq c) ≤ big) : QA c = some (bif zgf c then 0 else 8) := by
 obtain ⟨y, h1, h2, h3⟩ := zs9 (m := 0) h (by omega)
 unfold QA zgf
 replace h1 : Q5 (c, 0) = some y := h1
 simp only [zX, h1, za, Option.bind_some]
 rw [Nat.zero_add] at h2
 cases hf : y.1.2 with
 | false =>
  rw [hf] at h2
  rw [← Bool.and_assoc, ← h2]; rfl
 | true =>
  have e : decide ((zbO c : Int) > 16) = !decide (zbO c ≤ 16) := Q6 _ 16
  rw [(h3 hf).1, e]
  rw [hf] at h2
  rw [← Bool.and_assoc, ← h2]
  cases decide (zbO c ≤ 16) <;> rfl
theorem zkF {c : zk} (h : zt (zq c) ≤ big) : zaO c = some (zgf c) := by
 obtain ⟨r, h1, h2, h3, h4⟩ := zkd (m := 1500) h (by unfold big; omega)
 replace h1 : qg (c, 1500) = some (r : Int) := h1
 have e : decide ((zbO c : Int) ≤ 16) = decide (zbO c ≤ 16) := znz _ 16
 have e2 : decide ((r : Int) ≤ 1500) = decide (sizC c ≤ 1500) := by
  by_cases hs : sizC c ≤ 1500
  ·rw [decide_eq_true hs, h3 hs, decide_eq_true (by omega)]
  ·have := h4 (by omega)
   rw [decide_eq_false hs, decide_eq_false (by omega)]
 unfold zaO zgf
 simp only [zX, h1, za, Option.bind_some, zlU h, zlV h, zD, e2]
 cases decide (sizC c ≤ 1500) with
 | false => simp
 | true => simp only [cond_true, e]; cases decide (zbO c ≤ 16) <;> cases supC c <;> rfl
theorem zrX {c : zk} (h : zt (zq c) ≤ big) : ∃ y : Int, zam c = some y ∧ (supC c = true → y = (zbO c : Int)) := by
 refine zf2 zpL (fun c => zt (zq c)) (fun c => zt (zq c) ≤ big) (fun c (y : Int) => supC c = true → y = (zbO c : Int)) (fun S c hc hS => ?_) h
 have hlen := qh c
 have hv := zhd c.decl.value
 have hz := zdb c
 have hzd := QL c.decl
 have hs := zxS c
 have hdp := zod c
 unfold zcB
 cases h7 : c.kind == 7 with
 | true =>
  rw [h7] at hs hdp
  simp only [cond_true] at hs hdp ⊢
  rw [zmH (show szL c.decl.value ≤ big by omega)]
  refine ⟨_, rfl, fun h => ?_⟩
  have her : errS c.decl.value = 0 := by
   rw [hs] at h
   unfold zbN at h
   simp only [Bool.and_eq_true, beq_iff_eq] at h
   exact h.2.2.2.2.1
  have h1 := zeG c.decl.value
  rw [if_pos her, hdp, zhQ (show qO c.decl.value ≤ big by omega), Nat.add_comm]
 | false =>
  rw [h7] at hs hdp
  simp only [cond_false] at hs hdp ⊢
  cases h8 : c.kind == 8 with
  | true =>
   rw [h8] at hdp
   exact ⟨_, rfl, fun _ => by rw [hdp]; rfl⟩
  | false =>
   rw [h8] at hs hdp
   simp only [cond_false] at hs hdp ⊢
   refine zlt (A := Int) c.list.length (fun i a => (a, (i : Int))) (fun i a => supC c = true → a = (mx zjz (c.list.take i) : Int)) _ (a0 := 0) rfl (fun _ => by simp [mx]) (fun i a hi hI => .inl ?_) (fun a hI => .inl ?_)
   ·have hm := qf (List.getElem_mem hi)
    obtain ⟨y, hy1, hy2⟩ := hS c.list[i] (by omega) hm
    have hlf : (bif c.list[i].kind != 7 then c.list[i].kind != 8 else false) = !zh3 c.list[i] := by unfold zh3; rw [bne, bne]; cases c.list[i].kind == 7 <;> rfl
    refine ⟨if (bif zh3 c.list[i] then y else w64 (y + 1)) > a then (bif zh3 c.list[i] then y else w64 (y + 1)) else a, ?_, fun h => ?_⟩
    ·simp only [zM hi, cond_true, zH hi, za, Option.bind_some, zX, hy1, hlf, zw hi (show c.list.length ≤ big by omega)]
     cases zh3 c.list[i] <;> rfl
    ·have ha := hI h
     have hall : c.list.all supC = true := by
      rw [hs] at h
      simp only [Bool.and_eq_true] at h
      exact h.2.2.2
     have hy := hy2 (List.all_eq_true.1 hall _ (List.getElem_mem hi))
     have hst : zjz c.list[i] = (bif zh3 c.list[i] then 0 else 1) + zbO c.list[i] := rfl
     have hdl := zoe c.list[i]
     rw [zpN zjz hi, ha, hy]
     cases hlf2 : zh3 c.list[i] with
     | true =>
      rw [hlf2, cond_true, Nat.zero_add] at hst
      simp only [cond_true, ← hst, zgV]
     | false =>
      rw [hlf2, cond_false, Nat.add_comm] at hst
      simp only [cond_false, zhQ (show zbO c.list[i] ≤ big by omega), ← hst, zgV]
   ·refine ⟨a, ?_, a, rfl, fun h => ?_⟩
    ·simp only [zF, cond_false]
    ·rw [hI h, List.take_length, hdp]
end Go.Lv.VT

namespace Go.Lv.VT
def zEE {A S X R : Type} (k : X → Option R) (st : Nat → A → S) (Q : R → Prop) (i : Nat) : LO S X R → Prop
 | .again s => ∃ a', s = st (i + 1) a'
 | .ret r => Q r
 | .out x => ∃ r, k x = some r ∧ Q r
def Ends {S X R : Type} (k : X → Option R) (Q : R → Prop) : LO S X R → Prop
 | .again _ => False
 | .ret r => Q r
 | .out x => ∃ r, k x = some r ∧ Q r
theorem ziB {A S X R : Type} {step : S → Option (LO S X R)} {k : X → Option R} (n : Nat) (st : Nat → A → S) (Q : R → Prop) {s0 : S} {a0 : A} (h0 : s0 = st 0 a0)
  (hg : ∀ (i : Nat) (a : A), i < n → ∃ o, step (st i a) = some o ∧ zEE k st Q i o) (hf : ∀ a, ∃ o, step (st n a) = some o ∧ Ends k Q o) : ∃ r, zN step s0 k = some r ∧ Q r := by
 refine zlt n st (fun _ _ => True) Q h0 trivial (fun i a hi _ => ?_) (fun a _ => ?_)
 ·obtain ⟨o, h1, h2⟩ := hg i a hi
  cases o with
  | again s => obtain ⟨a', rfl⟩ := h2; exact .inl ⟨a', h1, trivial⟩
  | ret r => exact .inr (.inl ⟨r, h1, h2⟩)
  | out x => exact .inr (.inr ⟨x, h1, h2⟩)
 ·obtain ⟨o, h1, h2⟩ := hf a
  cases o with
  | again s => exact h2.elim
  | ret r => exact .inr ⟨r, h1, h2⟩
  | out x => exact .inl ⟨x, h1, h2⟩
theorem zx1 {α : Type} {b : Bool} {A B : Option α} {P : α → Prop} (h1 : ∃ o, A = some o ∧ P o) (h2 : ∃ o, B = some o ∧ P o) : ∃ o, (bif b then A else B) = some o ∧ P o := by
 cases b
 ·exact h2
 ·exact h1
theorem zt9 {l : List zf} {m : Int} (h : szL l ≤ big) : ∃ r, Qu (l, m) = some r := by
 have : ∃ r, Qu (l, m) = some r ∧ True := by
  refine zf2 zpG (fun x => szL x.1) (fun x => szL x.1 ≤ big) (fun _ _ => True) (fun S x hx hS => ?_) (x := (l, m)) h
  obtain ⟨l, m⟩ := x
  have hx : szL l ≤ big := hx
  have hlen := zcj l
  unfold zcu
  refine ziB (A := Int) l.length (fun i a => (a, (i : Int))) _ (a0 := 0) rfl (fun i a hi => ?_) (fun a => ?_)
  ·have hsz := zet (List.getElem_mem hi)
   have hv := zhe l[i]
   cases ha : decide (a ≤ m) with
   | false => simp only [zM hi, cond_true, cond_false, ha]; exact ⟨_, rfl, _, rfl, trivial⟩
   | true =>
    obtain ⟨r, hr, _⟩ := hS (l[i].list, w64 (m - a)) (by show szL l[i].list ≤ big; omega) (by show szL l[i].list < szL l; omega)
    simp only [zM hi, cond_true, ha, zH hi, za, Option.bind_some, hr, zw hi (show l.length ≤ big by omega)]
    exact ⟨_, rfl, _, rfl⟩
  ·simp only [zF, cond_false]; exact ⟨_, rfl, _, rfl, trivial⟩
 obtain ⟨r, hr, _⟩ := this
 exact ⟨r, hr⟩
theorem zka {l : List Zh} (h : zL Zc l ≤ big) : ∃ r, zbn l = some r := by
 have hlen := Zm zaS l
 have : ∃ r, zbn l = some r ∧ True := by
  unfold zbn
  cases decide ((l.length : Int) > 40) with
  | true => exact ⟨_, rfl, trivial⟩
  | false =>
   simp only [cond_false]
   refine ziB (A := Int) l.length (fun i a => (a, (i : Int))) _ (a0 := 0) rfl (fun i a hi => ?_) (fun a => ?_)
   ·have hm := ZA (f := Zc) (List.getElem_mem hi)
    have hz := QL l[i]
    have hv := zhd l[i].value
    obtain ⟨r, hr⟩ := zt9 (l := l[i].value) (m := 300) (by omega)
    simp only [zM hi, cond_true, zH hi, za, Option.bind_some, hr, zD, zw hi (show l.length ≤ big by omega)]
    have hd : ∀ (g : Bool) (k : Int → Option (LO (Int × Int) Unit Bool)), ((zz g (ZP (bif g then l[i] else default).value) (default : Int)).bind k) = k (bif g then (qO l[i].value : Int) else default) := by
     intro g k
     cases g with
     | false => rfl
     | true => simp only [cond_true, zT, zor (show szL l[i].value ≤ big by omega), Option.bind_some]
    rw [hd]
    exact zx1 ⟨_, rfl, trivial⟩ ⟨_, rfl, _, rfl⟩
   ·simp only [zF, cond_false]; exact ⟨_, rfl, _, rfl, trivial⟩
 obtain ⟨r, hr, _⟩ := this
 exact ⟨r, hr⟩
theorem zue {c : zk} (h : zt (zq c) ≤ big) : ∃ r, Qx c = some r := by
 have : ∃ r, Qx c = some r ∧ True := by
  refine zf2 zpJ (fun c => zt (zq c)) (fun c => zt (zq c) ≤ big) (fun _ _ => True) (fun S c hc hS => ?_) h
  have hlen := qh c
  have hd := zhg c
  obtain ⟨r, hr⟩ := zka (l := [c.decl]) (by rw [qX, zqY]; omega)
  unfold zcy
  simp only [hr, za, Option.bind_some]
  refine zx1 ⟨_, rfl, trivial⟩ ?_
  ·refine ziB (A := Unit) c.list.length (fun i _ => (i : Int)) _ (a0 := ()) rfl (fun i a hi => ?_) (fun a => ?_)
   ·have hm := qf (List.getElem_mem hi)
    obtain ⟨q, hq, _⟩ := hS c.list[i] (by omega) hm
    simp only [zM hi, cond_true, zH hi, Option.bind_some, zX, hq, zw hi (show c.list.length ≤ big by omega)]
    cases q with
    | true => exact ⟨_, rfl, trivial⟩
    | false => exact ⟨_, rfl, (), rfl⟩
   ·simp only [zF, cond_false]; exact ⟨_, rfl, _, rfl, trivial⟩
 obtain ⟨r, hr, _⟩ := this
 exact ⟨r, hr⟩
theorem zrP {c : zk} (h : zt (zq c) ≤ big) : ∃ r, zfI c = some r := by
 obtain ⟨n, h1, _⟩ := zkd (m := 100) h (by unfold big; omega)
 replace h1 : qg (c, 100) = some (n : Int) := h1
 obtain ⟨b, h2⟩ := zue h
 unfold zfI
 simp only [zX, h1, h2, za, Option.bind_some, zD]
 exact ⟨_, rfl⟩
theorem zua {l : List zb} {m : Int} (h : zL ze l ≤ big) : ∃ r, Qv (l, m) = some r := by
 have : ∃ r, Qv (l, m) = some r ∧ True := by
  refine zf2 zpH (fun x => zL ze x.1) (fun x => zL ze x.1 ≤ big) (fun _ _ => True) (fun S x hx hS => ?_) (x := (l, m)) h
  obtain ⟨l, m⟩ := x
  have hx : zL ze l ≤ big := hx
  have hlen := Zm qj l
  unfold zcw
  refine ziB (A := Int) l.length (fun i a => (a, (i : Int))) _ (a0 := 0) rfl (fun i a hi => ?_) (fun a => ?_)
  ·have hm := ZA (f := ze) (List.getElem_mem hi)
   have hz := qM l[i]
   have hlen2 := Zm qW l[i].parts
   cases ha : decide (a ≤ m) with
   | false => simp only [zM hi, cond_true, cond_false, ha]; exact ⟨_, rfl, _, rfl, trivial⟩
   | true =>
    simp only [zM hi, cond_true, ha, zH hi, za, Option.bind_some, zw hi (show l.length ≤ big by omega)]
    refine ziB (A := Int) l[i].parts.length (fun i a => (a, (i : Int))) _ rfl (fun j b hj => ?_) (fun b => ?_)
    ·have hm2 := ZA (f := zI) (List.getElem_mem hj)
     have hz2 := Z6 l[i].parts[j]
     have hlen3 := Zm zaH l[i].parts[j].simples
     cases hb : decide (b ≤ m) with
     | false => simp only [zM hj, cond_true, cond_false, hb]; exact ⟨_, rfl, _, rfl, _, rfl⟩
     | true =>
      simp only [zM hj, cond_true, hb, zH hj, Option.bind_some, zw hj (show l[i].parts.length ≤ big by omega)]
      refine ziB (A := Int) l[i].parts[j].simples.length (fun i a => (a, (i : Int))) _ rfl (fun n c hn => ?_) (fun c => ?_)
      ·have hm3 := ZA (f := zO) (List.getElem_mem hn)
       have hz3 := qI l[i].parts[j].simples[n]
       cases hc : decide (c ≤ m) with
       | false => simp only [zM hn, cond_true, cond_false, hc]; exact ⟨_, rfl, _, rfl, _, rfl⟩
       | true =>
        obtain ⟨r, hr, _⟩ := hS (l[i].parts[j].simples[n].list, w64 (m - c)) (by show zL ze l[i].parts[j].simples[n].list ≤ big; omega) (by show zL ze l[i].parts[j].simples[n].list < zL ze l; omega)
        simp only [zM hn, cond_true, hc, zH hn, Option.bind_some, hr, zw hn (show l[i].parts[j].simples.length ≤ big by omega)]
        exact ⟨_, rfl, _, rfl⟩
      ·simp only [zF, cond_false]; exact ⟨_, rfl, _, rfl, _, rfl⟩
    ·simp only [zF, cond_false]; exact ⟨_, rfl, _, rfl, _, rfl⟩
  ·simp only [zF, cond_false]; exact ⟨_, rfl, _, rfl, trivial⟩
 obtain ⟨r, hr, _⟩ := this
 exact ⟨r, hr⟩
theorem zrO {l : List zb} (h : zL ze l ≤ big) : ∃ r, zfF l = some r := by
 obtain ⟨r, hr⟩ := zua (m := 600) h
 unfold zfF
 rw [hr]
 exact ⟨_, rfl⟩
theorem zwV (l : List (List Str)) : l.length ≤ zL (fun l : List Str => [.sl (l.map fun y => [.str y])]) l ∧ ∀ n ∈ l, n.length ≤ zL (fun l : List Str => [.sl (l.map fun y => [.str y])]) l ∧ ∀ s ∈ n, s.length ≤ zL (fun l : List Str => [.sl (l.map fun y => [.str y])]) l := by
 have h1 : ∀ n : List Str, n.length ≤ zL (fun y : Str => [.str y]) n := Zm (fun y => by simp [zt, bPV])
 have h2 : ∀ n : List Str, zt [.sl (n.map fun y => [.str y])] = 1 + zL (fun y : Str => [.str y]) n := zDg
 refine ⟨Zm (fun v => by rw [h2]; omega) l, fun n hn => ?_⟩
 have hm := ZA (f := fun l : List Str => [.sl (l.map fun y => [.str y])]) hn
 have h3 := h2 n
 have h4 := h1 n
 refine ⟨by omega, fun s hs => ?_⟩
 have h5 := ZA (f := fun y : Str => [.str y]) hs
 have h6 : zt [PV.str s] = 1 + s.length ∨ zt [PV.str s] = s.length := by simp only [zt, bPV]; omega
 omega
theorem zn0 {l : List zu} {m : Int} (h : zL zh l ≤ big) : ∃ r, ZW (l, m) = some r := by
 have : ∃ r, ZW (l, m) = some r ∧ True := by
  refine zf2 zly (fun x => zL zh x.1) (fun x => zL zh x.1 ≤ big) (fun _ _ => True) (fun S x hx hS => ?_) (x := (l, m)) h
  obtain ⟨l, m⟩ := x
  have hx : zL zh l ≤ big := hx
  have hlen := Zm zan l
  unfold zaj
  refine zx1 ⟨_, rfl, trivial⟩ ?_
  ·refine ziB (A := Unit) l.length (fun i _ => (i : Int)) _ (a0 := ()) rfl (fun i a hi => ?_) (fun a => ?_)
   ·have hm := ZA (f := zh) (List.getElem_mem hi)
    have hz := zb8 l[i]
    have hcp := zmf l[i].cond
    obtain ⟨hn1, hn2⟩ := zwV l[i].names
    obtain ⟨q1, h1⟩ := zrO (l := l[i].selectors) (by omega)
    obtain ⟨q2, h2⟩ := zka (l := l[i].decls) (by omega)
    obtain ⟨q3, h3⟩ := zrP (c := l[i].cond) (by omega)
    obtain ⟨q4, h4, _⟩ := hS (l[i].rules, w64 (m - 1)) (by show zL zh l[i].rules ≤ big; omega) (by show zL zh l[i].rules < zL zh l; omega)
    simp only [zM hi, cond_true, zH hi, za, Option.bind_some, zX, h1, h2, h3, h4, zD, zw hi (show l.length ≤ big by omega)]
    refine zx1 ⟨_, rfl, trivial⟩ ?_
    ·refine ziB (A := Unit) l[i].names.length (fun i _ => (i : Int)) _ (a0 := ()) rfl (fun j a hj => ?_) (fun a => ?_)
     ·simp only [zM hj, cond_true, zH hj, Option.bind_some, zw hj (show l[i].names.length ≤ big by omega)]
      cases decide ((l[i].names[j].length : Int) > 20) with
      | true => exact ⟨_, rfl, trivial⟩
      | false => exact ⟨_, rfl, (), rfl⟩
     ·simp only [zF, cond_false]; exact ⟨_, rfl, _, rfl, (), rfl⟩
   ·simp only [zF, cond_false]; exact ⟨_, rfl, _, rfl, trivial⟩
 obtain ⟨r, hr, _⟩ := this
 exact ⟨r, hr⟩
mutual
def numR : zu → Nat
 | ⟨_, _, _, _, _, l⟩ => 1 + ZM l
def ZM : List zu → Nat
 | [] => 0
 | r :: l => numR r + ZM l
end
theorem zxx (r : zu) : numR r = 1 + ZM r.rules := by obtain ⟨⟩ := r; rw [numR]
theorem zlB (l : List zu) : ZM l = (l.map numR).sum := by
 induction l with
 | nil => rw [ZM]; rfl
 | cons c l ih => rw [ZM, ih]; rfl
theorem zop : ∀ l : List zu, ZM l ≤ zL zh l := by
 have key : ∀ (n : Nat) (l : List zu), zL zh l < n → ZM l ≤ zL zh l := by
  intro n
  induction n with
  | zero => intro l h; omega
  | succ n ih =>
   intro l
   induction l with
   | nil => intro _; rw [ZM]; exact Nat.zero_le _
   | cons v l ihl =>
    intro h
    rw [qX] at h ⊢
    rw [ZM, zxx]
    have hz := zb8 v
    have h1 := ih v.rules (by omega)
    have h2 := ihl (by omega)
    omega
 exact fun l => key _ l (Nat.lt_succ_self _)
theorem zA2 (l : List zu) : ZM l = l.length + (l.map fun r => ZM r.rules).sum := by
 induction l with
 | nil => rw [ZM]; rfl
 | cons r l ih => rw [ZM, ih, zxx, List.map_cons, List.sum_cons, List.length_cons]; omega
theorem zc3 {l : List zu} (h : zL zh l ≤ big) : ZC l = some (ZM l : Int) := by
 refine Zg (fun l => zL zh l) (fun l => zL zh l ≤ big) (fun l => (ZM l : Int)) (fun S l hl hS => ?_) h
 unfold zdQ
 have hn := zop l
 have hlen := Zm zan l
 rw [zA2] at hn ⊢
 refine (zhA l (fun r => ZM r.rules) l.length big (by omega) (fun i a hi ha => ?_) (fun a => ?_)).trans rfl
 ·have hm := ZA (f := zh) (List.getElem_mem hi)
  have hz := zb8 l[i]
  simp only [zM hi, cond_true, zH hi, za, Option.bind_some, zw hi (show l.length ≤ big by omega), hS l[i].rules (show zL zh l[i].rules ≤ big by omega) (show zL zh l[i].rules < zL zh l by omega), zm8 ha]
 ·simp only [zF, cond_false]
theorem zkf {l : List zu} (h : zL zh l ≤ big) : ∃ r, zdx l = some r := by
 obtain ⟨q, hq⟩ := zn0 (m := 30) h
 unfold zdx
 simp only [hq, zc3 h, za, Option.bind_some, zD]
 exact ⟨_, rfl⟩
end Go.Lv.VT

namespace Go.Lv.VT
theorem zpB {α A S X R : Type} {step : S → Option (LO S X R)} {k : X → Option R} (l : List α) (f : A → α → A) (st : A → Nat → S) (out : A → X) {s0 : S} {a0 : A} (h0 : s0 = st a0 0)
  (hg : ∀ (i : Nat) (a : A) (h : i < l.length), step (st a i) = some (.again (st (f a l[i]) (i + 1))))
  (hf : ∀ a : A, step (st a l.length) = some (.out (out a))) : zN step s0 k = k (out (l.foldl f a0)) := by
 have key : ∀ (m : List α) (i : Nat) (a : A), l.drop i = m → i ≤ l.length → ∃ n, Z8 step n (st a i) = some (.out (out (m.foldl f a))) := by
  intro m
  induction m with
  | nil =>
   intro i a hd hi
   have : i = l.length := by have := List.drop_eq_nil_iff.1 hd; omega
   subst this
   exact ⟨1, by simp only [Z8, hf, List.foldl_nil]⟩
  | cons v m ih =>
   intro i a hd hi
   have hlt : i < l.length := by
    rcases Nat.lt_or_ge i l.length with h | h
    ·exact h
    ·rw [List.drop_eq_nil_of_le h] at hd; cases hd
   have hv : l[i] = v := by
    have := List.drop_eq_getElem_cons hlt
    rw [hd] at this
    injection this with h1 _
    exact h1.symm
   have hs := hg i a hlt
   rw [hv] at hs
   obtain ⟨n, hn⟩ := ih (i + 1) (f a v) (by rw [List.drop_eq_getElem_cons hlt] at hd; injection hd) (by omega)
   refine ⟨n + 1, ?_⟩
   simp only [Z8, hs]
   rw [hn, List.foldl_cons]
 obtain ⟨n, hn⟩ := key l 0 a0 rfl (by omega)
 rw [h0, zb3 (zbv hn)]
 rfl
theorem zog {α : Type} (p : α → Bool) : ∀ (l : List α) (b : Bool), l.foldl (fun b v => b || p v) b = (b || l.any p)
 | [], b => by simp
 | v :: l, b => by rw [List.foldl_cons, zog p l, List.any_cons, Bool.or_assoc]
def zsm (x : zy) : Bool := (x.kind == 9 || x.kind == 10) && (!x.of_ && (x.anb.a == 0 && x.anb.b == 1))
def innS (x : zy) : Bool := x.kind == 3 || (decide (9 ≤ x.kind) && !zsm x)
mutual
def selL : List zb → Nat
 | [] => 0
 | ⟨_, parts, _⟩ :: r => max (selP parts) (selL r)
def selP : List zA → Nat
 | [] => 0
 | ⟨_, simples⟩ :: r => max (selI simples) (selP r)
def selI : List zy → Nat
 | [] => 0
 | ⟨k, n, o, v, f, a, w, list⟩ :: r => max (bif innS ⟨k, n, o, v, f, a, w, list⟩ then 1 + selL list else 0) (selI r)
end
def oneI (x : zy) : Nat := bif innS x then 1 + selL x.list else 0
theorem zBv (l : List zy) : selI l = mx oneI l := by
 induction l with
 | nil => rw [selI]; rfl
 | cons x l ih => obtain ⟨⟩ := x; rw [selI, ih]; rfl
theorem zBy (l : List zA) : selP l = mx (fun x => selI x.simples) l := by
 induction l with
 | nil => rw [selP]; rfl
 | cons x l ih => obtain ⟨⟩ := x; rw [selP, ih]; rfl
theorem zBx (l : List zb) : selL l = mx (fun x => selP x.parts) l := by
 induction l with
 | nil => rw [selL]; rfl
 | cons x l ih => obtain ⟨⟩ := x; rw [selL, ih]; rfl
mutual
theorem zqw : ∀ l : List zb, selL l ≤ zL ze l
 | [] => by rw [selL]; exact Nat.zero_le _
 | ⟨a, parts, b⟩ :: r => by
  rw [selL, qX, qM]
  have := zBz parts
  have := zqw r
  show max (selP parts) (selL r) ≤ 3 + zL zI parts + b.length + _
  omega
theorem zBz : ∀ l : List zA, selP l ≤ zL zI l
 | [] => by rw [selP]; exact Nat.zero_le _
 | ⟨a, simples⟩ :: r => by
  rw [selP, qX, Z6]
  have := zBw simples
  have := zBz r
  show max (selI simples) (selP r) ≤ 2 + a.length + zL zO simples + _
  omega
theorem zBw : ∀ l : List zy, selI l ≤ zL zO l
 | [] => by rw [selI]; exact Nat.zero_le _
 | ⟨a, b, c, d, e, f, g, list⟩ :: r => by
  rw [selI, qX, qI]
  have := zqw list
  have := zBw r
  show max (bif innS ⟨a, b, c, d, e, f, g, list⟩ then 1 + selL list else 0) (selI r) ≤ 9 + b.length + d.length + zL ze list + _
  cases innS ⟨a, b, c, d, e, f, g, list⟩ <;> simp only [cond_true, cond_false] <;> omega
end
theorem zyb (x : zy) : (bif bif bif x.kind == 9 then true else x.kind == 10 then !x.of_ else false then x.anb.a == 0 && (x.anb.b == 1 && true) else false) = zsm x := by
 unfold zsm
 cases x.kind == 9 <;> cases x.kind == 10 <;> cases x.of_ <;> cases x.anb.a == 0 <;> cases x.anb.b == 1 <;> rfl
theorem zrN (x : zy) : zhN x = some (zsm x) := congrArg some (zyb x)
theorem zCz (x : zy) : (bif x.kind == 3 then true else bif decide (x.kind ≥ 9) then !(bif bif bif x.kind == 9 then true else x.kind == 10 then !x.of_ else false then x.anb.a == 0 && (x.anb.b == 1 && true) else false) else false) = innS x := by
 rw [zyb]
 unfold innS
 show (bif x.kind == 3 then true else bif decide (9 ≤ x.kind) then !zsm x else false) = _
 cases x.kind == 3 <;> cases decide (9 ≤ x.kind) <;> rfl
theorem zmX {l : List zb} (h : zL ze l ≤ big) : qa l = some (selL l : Int) := by
 refine Zg (fun l => zL ze l) (fun l => zL ze l ≤ big) (fun l => (selL l : Int)) (fun S l hl hS => ?_) h
 have hlen := Zm qj l
 unfold zb7
 refine (zeM l (fun x => selP x.parts) (fun a i => ((a : Int), (i : Int))) (fun a => (a : Int)) (a0 := 0) rfl (fun i a hi => ?_) (fun a => ?_)).trans (by rw [zBx, Nat.zero_max])
 ·have hm := ZA (f := ze) (List.getElem_mem hi)
  have hz := qM l[i]
  have hlen2 := Zm qW l[i].parts
  simp only [zM hi, cond_true, zH hi, za, Option.bind_some, zw hi (show l.length ≤ big by omega)]
  refine (zeM l[i].parts (fun x => selI x.simples) (fun a i => ((a : Int), (i : Int))) (fun a => (a : Int)) (a0 := a) rfl (fun j b hj => ?_) (fun a => ?_)).trans (by rw [zBy])
  ·have hm2 := ZA (f := zI) (List.getElem_mem hj)
   have hz2 := Z6 l[i].parts[j]
   have hlen3 := Zm zaH l[i].parts[j].simples
   simp only [zM hj, cond_true, zH hj, Option.bind_some, zw hj (show l[i].parts.length ≤ big by omega)]
   refine (zeM l[i].parts[j].simples oneI (fun a i => ((a : Int), (i : Int))) (fun a => (a : Int)) (a0 := b) rfl (fun n c hn => ?_) (fun a => ?_)).trans (by rw [zBv])
   ·have hm3 := ZA (f := zO) (List.getElem_mem hn)
    have hz3 := qI l[i].parts[j].simples[n]
    have hle := zqw l[i].parts[j].simples[n].list
    simp only [zM hn, cond_true, zH hn, Option.bind_some, zw hn (show l[i].parts[j].simples.length ≤ big by omega)]
    have hs := hS l[i].parts[j].simples[n].list (by show zL ze l[i].parts[j].simples[n].list ≤ big; omega) (by show zL ze l[i].parts[j].simples[n].list < zL ze l; omega)
    have hw := zhQ (n := selL l[i].parts[j].simples[n].list) (by omega)
    simp only [zCz, hs, Option.bind_some, hw]
    have hone : oneI l[i].parts[j].simples[n] = bif innS l[i].parts[j].simples[n] then 1 + selL l[i].parts[j].simples[n].list else 0 := rfl
    rw [hone]
    cases innS l[i].parts[j].simples[n] with
    | true => simp only [cond_true, zJ, zgV, zw hn (show l[i].parts[j].simples.length ≤ big by omega)]; rw [Nat.add_comm 1]
    | false => simp only [cond_false, zJ, Nat.max_zero, zw hn (show l[i].parts[j].simples.length ≤ big by omega)]
   ·simp only [zF, cond_false]
  ·simp only [zF, cond_false]
 ·simp only [zF, cond_false]
theorem zmV {l : List zb} (h : zL ze l ≤ big) : Z9 l = some (selL l : Int) := by
 refine Zg (fun l => zL ze l) (fun l => zL ze l ≤ big) (fun l => (selL l : Int)) (fun S l hl hS => ?_) h
 have hlen := Zm qj l
 unfold zb5
 refine (zeM l (fun x => selP x.parts) (fun a i => ((a : Int), (i : Int))) (fun a => (a : Int)) (a0 := 0) rfl (fun i a hi => ?_) (fun a => ?_)).trans (by rw [zBx, Nat.zero_max])
 ·have hm := ZA (f := ze) (List.getElem_mem hi)
  have hz := qM l[i]
  have hlen2 := Zm qW l[i].parts
  simp only [zM hi, cond_true, zH hi, za, Option.bind_some, zw hi (show l.length ≤ big by omega)]
  refine (zeM l[i].parts (fun x => selI x.simples) (fun a i => ((a : Int), (i : Int))) (fun a => (a : Int)) (a0 := a) rfl (fun j b hj => ?_) (fun a => ?_)).trans (by rw [zBy])
  ·have hm2 := ZA (f := zI) (List.getElem_mem hj)
   have hz2 := Z6 l[i].parts[j]
   have hlen3 := Zm zaH l[i].parts[j].simples
   simp only [zM hj, cond_true, zH hj, Option.bind_some, zw hj (show l[i].parts.length ≤ big by omega)]
   refine (zeM l[i].parts[j].simples oneI (fun a i => ((a : Int), (i : Int))) (fun a => (a : Int)) (a0 := b) rfl (fun n c hn => ?_) (fun a => ?_)).trans (by rw [zBv])
   ·have hm3 := ZA (f := zO) (List.getElem_mem hn)
    have hz3 := qI l[i].parts[j].simples[n]
    have hle := zqw l[i].parts[j].simples[n].list
    simp only [zM hn, cond_true, zH hn, Option.bind_some, zw hn (show l[i].parts[j].simples.length ≤ big by omega)]
    have hs := hS l[i].parts[j].simples[n].list (by show zL ze l[i].parts[j].simples[n].list ≤ big; omega) (by show zL ze l[i].parts[j].simples[n].list < zL ze l; omega)
    have hw := zuP (n := selL l[i].parts[j].simples[n].list) (by omega)
    have hinn : (bif l[i].parts[j].simples[n].kind == 3 then true else bif decide ((bif !(l[i].parts[j].simples[n].kind == 3) then l[i].parts[j].simples[n] else (default : zy)).kind ≥ 9) then !(bif decide ((bif !(l[i].parts[j].simples[n].kind == 3) then l[i].parts[j].simples[n] else (default : zy)).kind ≥ 9) && !(l[i].parts[j].simples[n].kind == 3) then zsm (bif decide ((bif !(l[i].parts[j].simples[n].kind == 3) then l[i].parts[j].simples[n] else (default : zy)).kind ≥ 9) && !(l[i].parts[j].simples[n].kind == 3) then l[i].parts[j].simples[n] else (default : zy)) else default) else false) = innS l[i].parts[j].simples[n] := by
     unfold innS
     cases hk : l[i].parts[j].simples[n].kind == 3 with
     | true => rfl
     | false =>
      simp only [cond_true, cond_false, Bool.not_false, Bool.and_true, Bool.false_or]
      show (bif decide (9 ≤ l[i].parts[j].simples[n].kind) then _ else _) = (decide (9 ≤ l[i].parts[j].simples[n].kind) && _)
      cases h9 : decide (9 ≤ l[i].parts[j].simples[n].kind) with
      | false => rfl
      | true =>
       have h9' : decide (l[i].parts[j].simples[n].kind ≥ 9) = true := h9
       simp only [h9', cond_true, Bool.true_and]
    simp only [zD, Option.bind_some, zgR, zrN, hinn, hs, hw]
    have hone : oneI l[i].parts[j].simples[n] = bif innS l[i].parts[j].simples[n] then 1 + selL l[i].parts[j].simples[n].list else 0 := rfl
    rw [hone]
    cases innS l[i].parts[j].simples[n] with
    | true => simp only [cond_true, zJ, zgV, zw hn (show l[i].parts[j].simples.length ≤ big by omega)]; rw [Nat.add_comm 1]
    | false => simp only [cond_false, zJ, Nat.max_zero, zw hn (show l[i].parts[j].simples.length ≤ big by omega)]
   ·simp only [zF, cond_false]
  ·simp only [zF, cond_false]
 ·simp only [zF, cond_false]
mutual
def askB : zk → Bool
 | ⟨k, _, _, _, l⟩ => (k == 5 || k == 6) || zzN l
def zzN : List zk → Bool
 | [] => false
 | c :: r => askB c || zzN r
end
theorem zoG (c : zk) : askB c = ((c.kind == 5 || c.kind == 6) || c.list.any askB) := by
 have : ∀ l : List zk, zzN l = l.any askB := by
  intro l
  induction l with
  | nil => rw [zzN]; rfl
  | cons c l ih => rw [zzN, ih]; rfl
 obtain ⟨k, n, m, d, l⟩ := c
 rw [askB, this]
def bN (b : Bool) : Int := bif b then 1 else 0
theorem zrT {c : zk} (h : zt (zq c) ≤ big) : QT c = some (bN (askB c)) := by
 refine Zg (fun c => zt (zq c)) (fun c => zt (zq c) ≤ big) (fun c => bN (askB c)) (fun S c hc hS => ?_) h
 have hlen := qh c
 have hj : ∀ {R : Type} (k : Int → Option R), zZ (X := Int) (bif bif c.kind == 5 then true else c.kind == 6 then some (LX.out 1) else some (LX.out 0)) k = k (bN (c.kind == 5 || c.kind == 6)) := by
  intro R k
  cases c.kind == 5 <;> cases c.kind == 6 <;> rfl
 unfold zeV
 rw [hj]
 refine (zpB c.list (fun b y => b || askB y) (fun b i => (bN b, (i : Int))) bN (a0 := (c.kind == 5 || c.kind == 6)) rfl (fun i b hi => ?_) (fun b => ?_)).trans (by rw [zog, ← zoG])
 ·have hm := qf (List.getElem_mem hi)
  simp only [zM hi, cond_true, zH hi, za, Option.bind_some, zX, hS c.list[i] (show zt (zq c.list[i]) ≤ big by omega) hm, zw hi (show c.list.length ≤ big by omega)]
  cases b <;> cases askB c.list[i] <;> rfl
 ·simp only [zF, cond_false]
def unw (c : zk) : zk := match c.list with
 | [y] => bif c.kind == 3 then y else c
 | _ => c
def askR (c : zk) : Bool := c.list.any fun y => (unw y).list.any fun z => z.kind != 4
theorem zE7 (c : zk) (R : Type) (a : Int) (k : Int × zk → Option R) : zZ (X := Int × zk) (
       bif bif c.kind == 3 then (c.list.length : Int) == 1 else false then
        (geti c.list 0).bind fun y4 =>
        some (LX.out (a, y4))
       else
        some (LX.out (a, c))) k = k (a, unw c) := by
 unfold unw
 cases hl : c.list with
 | nil => cases c.kind == 3 <;> rfl
 | cons y r =>
  cases r with
  | nil => cases c.kind == 3 <;> rfl
  | cons z r => rw [zxo]; cases c.kind == 3 <;> rfl
theorem zEz {c : zk} (h : zt (zq c) ≤ big) : (unw c).list.length ≤ big := by
 have := qh c
 unfold unw
 split
 ·rename_i y hl
  have := qf (c := c) (y := y) (by rw [hl]; exact List.mem_cons_self)
  have := qh y
  cases c.kind == 3 <;> simp only [cond_true, cond_false] <;> omega
 ·omega
theorem zBl {l : List zk} (hl : l.length ≤ big) (h : ∀ c ∈ l, zt (zq c) ≤ big) : zN (fun (s2 : Int × Int) =>
    bif decide (s2.2 < (l.length : Int)) then
     (geti l s2.2).bind fun y3 =>
     zZ (X := Int × zk) (
       bif bif y3.kind == 3 then (y3.list.length : Int) == 1 else false then
        (geti y3.list 0).bind fun y4 =>
        some (LX.out (s2.1, y4))
       else
        some (LX.out (s2.1, y3))) fun j5 =>
     zN (fun (s6 : Int × Int) =>
       bif decide (s6.2 < (j5.2.list.length : Int)) then
        zZ (X := Int × Int) (
          (geti j5.2.list s6.2).bind fun y7 =>
          bif y7.kind != 4 then
           some (LX.out (1, s6.2))
          else
           some (LX.out (s6.1, s6.2))) fun j8 =>
        some (LO.again (j8.1, w64 (j8.2 + 1)))
       else
        some (LO.out s6.1) : Int × Int → Option (LO (Int × Int) (Int) _)) (j5.1, 0) fun o9 =>
     some (LO.again (o9, w64 (s2.2 + 1)))
    else
     some (LO.out s2.1) : Int × Int → Option (LO (Int × Int) (Int) _)) (0, 0) (fun o10 => some o10) = some (bN (l.any fun y => (unw y).list.any fun z => z.kind != 4)) := by
 refine (zpB l (fun b y => b || (unw y).list.any fun z => z.kind != 4) (fun b i => (bN b, (i : Int))) bN (a0 := false) rfl (fun i b hi => ?_) (fun b => ?_)).trans (by rw [zog, Bool.false_or])
 ·have hb := h _ (List.getElem_mem hi)
  have hul := zEz hb
  simp only [zM hi, cond_true, zH hi, Option.bind_some, zw hi hl]
  rw [zE7]
  refine (zpB (unw l[i]).list (fun b (z : zk) => b || z.kind != 4) (fun b i => (bN b, (i : Int))) bN (a0 := b) rfl (fun j d hj => ?_) (fun b => ?_)).trans (by rw [zog])
  ·simp only [zM hj, cond_true, zH hj, Option.bind_some]
   cases (unw l[i]).list[j].kind != 4 with
   | true => simp only [cond_true, zJ, zw hj hul, Bool.or_true]; rfl
   | false => simp only [cond_false, zJ, zw hj hul, Bool.or_false]
  ·simp only [zF, cond_false]
 ·simp only [zF, cond_false]
theorem zoB {α : Type} {p q : α → Bool} : ∀ {l : List α}, (∀ v ∈ l, p v = q v) → l.any p = l.any q
 | [], _ => rfl
 | x :: l, h => by rw [List.any_cons, List.any_cons, h x List.mem_cons_self, zoB fun v hv => h v (List.mem_cons_of_mem _ hv)]
theorem zCE {b : Bool} {y : zk} (h : zmz b y = true) : askB y = (y.kind != 4) := by
 unfold zmz at h
 rw [Bool.and_eq_true] at h
 have hl : y.list = [] := List.isEmpty_iff.1 h.1
 rw [zoG, hl, List.any_nil, Bool.or_false, bne]
 have h2 := h.2
 rw [Bool.and_eq_true] at h2
 have h3 := h2.2
 simp only [Bool.or_eq_true, Bool.and_eq_true, beq_iff_eq] at h3
 rcases h3 with ⟨_, h4, _⟩ | ⟨h5 | h6, _⟩
 ·rw [h4]; rfl
 ·rw [h5]; rfl
 ·rw [h6]; rfl
theorem zze {l : List zk} (h : zpu l = true) : ∀ y ∈ l, askB y = (y.kind != 4) := by
 intro y hy
 obtain ⟨i, hi, rfl⟩ := List.mem_iff_getElem.1 hy
 unfold zpu at h
 have := List.all_eq_true.1 h i (by simpa using hi)
 simp only [List.getD_eq_getElem?_getD, List.getElem?_eq_getElem hi, Option.getD_some] at this
 exact zCE this
theorem zwp {c : zk} (h : ziT c = true) : askB c = c.list.any fun z => z.kind != 4 := by
 unfold ziT at h
 simp only [Bool.and_eq_true, beq_iff_eq] at h
 rw [zoG, h.1]
 show ((false || false) || _) = _
 rw [Bool.or_self, Bool.false_or]
 exact zoB (zze h.2.2.2)
theorem zB3 {c : zk} (h : zkk c = true) : askB c = (unw c).list.any fun z => z.kind != 4 := by
 unfold zkk at h
 unfold unw
 cases h3 : c.kind == 3 with
 | false =>
  rw [h3, cond_false] at h
  have := zwp h
  split
  ·rw [cond_false]; exact this
  ·exact this
 | true =>
  rw [h3, cond_true, Bool.and_eq_true] at h
  have h2 := h.2
  split at h2
  ·rename_i y hl
   simp only [hl, cond_true]
   rw [Bool.and_eq_true] at h2
   rw [zoG, beq_iff_eq.1 h3, hl, List.any_cons, List.any_nil, Bool.or_false, zwp h2.1]
   rfl
  ·cases h2
theorem zzj {c : zk} (h : zhB c = true) : askB c = askR c := by
 unfold zhB at h
 rw [Bool.and_eq_true, Bool.or_eq_true, Bool.and_eq_true, Bool.and_eq_true, Bool.and_eq_true, Bool.and_eq_true, beq_iff_eq, beq_iff_eq] at h
 unfold askR
 rw [zoG]
 rcases h.2 with ⟨h1, h2⟩ | ⟨h1, h2⟩
 ·rw [h1, List.isEmpty_iff.1 h2]; rfl
 ·rw [h1]
  show ((false || false) || _) = _
  rw [Bool.or_self, Bool.false_or]
  exact zoB fun y hy => zB3 (List.all_eq_true.1 h2.2.2 y hy)
def zyN (r : zu) : Bool := r.selectors.isEmpty && r.decls.isEmpty
def zy7 (r : zu) : Bool :=
 bif r.kind == 1 then (selS r.selectors == 0) && (decide (r.decls.length ≤ 32) && (ziG r.cond && (r.names.isEmpty && (r.rules.isEmpty && r.decls.all zbN))))
 else bif r.kind == 2 then zyN r && (r.names.isEmpty && zhB r.cond)
 else bif r.kind == 3 then zyN r && (r.names.isEmpty && zgf r.cond)
 else bif r.kind == 4 then zyN r && (decide (r.names.length ≤ 1) && ziG r.cond)
 else bif r.kind == 5 then zyN r && (!r.names.isEmpty && (decide (r.names.length ≤ 64) && (r.rules.isEmpty && ziG r.cond)))
 else false
mutual
def ZU : zu → Bool
 | ⟨k, s, d, c, n, l⟩ => zy7 ⟨k, s, d, c, n, l⟩ && (n.all zhH && zqy l)
def zqy : List zu → Bool
 | [] => true
 | r :: l => ZU r && zqy l
end
theorem zxO (l : List zu) : zqy l = l.all ZU := by
 induction l with
 | nil => rw [zqy]; rfl
 | cons c l ih => rw [zqy, ih]; rfl
theorem zqx (r : zu) : ZU r = (zy7 r && (r.names.all zhH && r.rules.all ZU)) := by
 obtain ⟨k, s, d, c, n, l⟩ := r
 rw [ZU, zxO]
def zs8 (r : zu) : Nat := bif r.kind == 3 then zbO r.cond else bif r.kind == 2 then (bif askB r.cond then 1 else 0) else 0
mutual
def za6 : zu → Nat
 | ⟨k, s, d, c, n, l⟩ => bif k == 5 then 0 else max (1 + max (zvs l) (mx (fun d => qO d.value) d)) (max (selL s) (zs8 ⟨k, s, d, c, n, l⟩))
def zvs : List zu → Nat
 | [] => 0
 | r :: l => max (za6 r) (zvs l)
end
theorem zAh (l : List zu) : zvs l = mx za6 l := by
 induction l with
 | nil => rw [zvs]; rfl
 | cons c l ih => rw [zvs, ih]; rfl
theorem ztf (r : zu) : za6 r = bif r.kind == 5 then 0 else max (1 + max (mx za6 r.rules) (mx (fun d => qO d.value) r.decls)) (max (selL r.selectors) (zs8 r)) := by
 obtain ⟨k, s, d, c, n, l⟩ := r
 rw [za6, zAh]
theorem mx_z {α : Type} {f : α → Nat} {g : α → List PV} : ∀ {l : List α}, (∀ v ∈ l, f v ≤ zt (g v)) → mx f l ≤ zL g l
 | [], _ => Nat.zero_le _
 | v :: l, h => by
  rw [mx, qX]
  have := h v List.mem_cons_self
  have := mx_z (l := l) (f := f) (g := g) fun w hw => h w (List.mem_cons_of_mem _ hw)
  omega
theorem zmt (l : List Zh) : mx (fun d => qO d.value) l ≤ zL Zc l :=
 mx_z fun d _ => by
  have := zeG d.value
  have := zhd d.value
  have := QL d
  omega
theorem zCc (r : zu) : zs8 r ≤ 1 + zt (zq r.cond) := by
 have := zoe r.cond
 unfold zs8
 cases r.kind == 3 <;> cases r.kind == 2 <;> cases askB r.cond <;> simp only [cond_true, cond_false] <;> omega
theorem zwW {r y : zu} (h : y ∈ r.rules) : zt (zh y) < zt (zh r) := by
 have hz := zb8 r
 have := ZA (f := zh) h
 omega
theorem zCj : ∀ r : zu, za6 r ≤ zt (zh r) := by
 have key : ∀ (n : Nat) (r : zu), zt (zh r) < n → za6 r ≤ zt (zh r) := by
  intro n
  induction n with
  | zero => intro c h; omega
  | succ n ih =>
   intro r h
   have hz := zb8 r
   have h1 : mx za6 r.rules ≤ zL zh r.rules := mx_z fun y hy => ih y (by have := zwW hy; omega)
   have h2 := zmt r.decls
   have h3 := zqw r.selectors
   have h4 := zCc r
   rw [ztf]
   cases r.kind == 5 <;> simp only [cond_true, cond_false] <;> omega
 exact fun c => key _ c (Nat.lt_succ_self _)
theorem zsG (l : List zu) : mx za6 l ≤ zL zh l := mx_z fun y _ => zCj y
theorem zcQ (r : zu) : (⟨r.kind, r.selectors, r.decls, r.cond, r.names, r.rules⟩ : zu) = r := by cases r; rfl
end Go.Lv.VT

namespace Go.Lv.VT
theorem zCK {α R : Type} {step : Int → Option (LO Int Unit R)} {k : Unit → Option R} (l : List α) (p : α → Bool) (r : R)
  (hg : ∀ (i : Nat) (h : i < l.length), step (i : Int) = some (bif p l[i] then .again ((i + 1 : Nat) : Int) else .ret r))
  (hf : step (l.length : Int) = some (.out ())) : zN step 0 k = bif l.all p then k () else some r := by
 refine (ZJ l (fun v => bif p v then none else some r) () (fun i hi => ?_) hf).trans ?_
 ·rw [hg i hi]
  cases p l[i] <;> rfl
 ·rw [QV]
  cases l.all p <;> rfl
theorem zAr {α : Type} (l : List α) : decide ((l.length : Int) > 0) = !l.isEmpty := ziS l
theorem zDq {α : Type} (l : List α) : decide ((l.length : Int) > 1) = !decide (l.length ≤ 1) := Q6 _ 1
theorem zql {r : zu} (h : zt (zh r) ≤ big) : Qd r = some (ZU r) := by
 refine Zg (fun r => zt (zh r)) (fun r => zt (zh r) ≤ big) (fun r => ZU r) (fun S r hr hS => ?_) h
 have hz := zb8 r
 have hcp := zmf r.cond
 have hlr := Zm zan r.rules
 have hld := Zm zaS r.decls
 obtain ⟨hn1, hn2⟩ := zwV r.names
 have e32 : decide ((r.decls.length : Int) > 32) = !decide (r.decls.length ≤ 32) := Q6 _ 32
 have e64 : decide ((r.names.length : Int) > 64) = !decide (r.names.length ≤ 64) := Q6 _ 64
 unfold zdR
 have hrules : ∀ R : Type, ∀ f : R, zN (fun (s16 : Int) =>
   bif decide (s16 < (r.rules.length : Int)) then
    (geti r.rules s16).bind fun y17 =>
    (S y17).bind fun y18 =>
    bif !y18 then
     some (LO.ret false)
    else
     some (LO.again (w64 (s16 + 1)))
   else
    some (LO.out ()) : Int → Option (LO (Int) (Unit) _)) 0 (fun _ => some true) = some (r.rules.all ZU) := by
  intro R f
  refine (zCK r.rules ZU false (fun i hi => ?_) ?_).trans ?_
  ·have hm := zwW (List.getElem_mem hi)
   simp only [zM hi, cond_true, zH hi, Option.bind_some, hS r.rules[i] (show zt (zh r.rules[i]) ≤ big by omega) hm, zw hi (show r.rules.length ≤ big by omega)]
   cases ZU r.rules[i] <;> rfl
  ·simp only [zF, cond_false]
  ·cases r.rules.all ZU <;> rfl
 have hnames : ∀ b : Bool, zN (fun (s12 : Int) =>
   bif decide (s12 < (r.names.length : Int)) then
    (geti r.names s12).bind fun y13 =>
    (zbr y13).bind fun y14 =>
    bif !y14 then
     some (LO.ret false)
    else
     some (LO.again (w64 (s12 + 1)))
   else
    some (LO.out ()) : Int → Option (LO (Int) (Unit) _)) 0 (fun _ => some b) = some (r.names.all zhH && b) := by
  intro b
  refine (zCK r.names zhH false (fun i hi => ?_) ?_).trans ?_
  ·obtain ⟨g1, g2⟩ := hn2 _ (List.getElem_mem hi)
   have hp : zbr r.names[i] = some (zhH r.names[i]) := zqk (by omega) (fun v hv => by have := g2 v hv; omega)
   simp only [zM hi, cond_true, zH hi, Option.bind_some, hp, zw hi (show r.names.length ≤ big by omega)]
   cases zhH r.names[i] <;> rfl
  ·simp only [zF, cond_false]
  ·cases r.names.all zhH <;> rfl
 simp only [za, zcQ, zX, hrules Unit (), hnames, zrM (show zL ze r.selectors ≤ big by omega), zug, zqi (show zt (zq r.cond) ≤ big by omega), zkF (show zt (zq r.cond) ≤ big by omega),
  zD, Option.bind_some, Zl, zAr, zDq, zfr, e32, e64, bne]
 rw [zqx]
 unfold zy7 zyN
 by_cases k1 : r.kind = 1
 ·simp only [k1, Int.reduceBEq, cond_true]
  have hdecl : zN (fun (s3 : Int) =>
       bif decide (s3 < (r.decls.length : Int)) then
        (geti r.decls s3).bind fun y4 =>
        (zbm y4).bind fun y5 =>
        bif !(y5 == 0) then
         some (LO.ret (LX.ret false))
        else
         some (LO.again (w64 (s3 + 1)))
       else
        some (LO.out ()) : Int → Option (LO (Int) (Unit) (LX Unit Bool))) 0 (fun _ => some (LX.ret true)) = some (LX.ret (r.decls.all zbN)) := by
   refine (zCK r.decls zbN (LX.ret false) (fun i hi => ?_) ?_).trans ?_
   ·have hm := ZA (f := Zc) (List.getElem_mem hi)
    simp only [zM hi, cond_true, zH hi, Option.bind_some, zj9 (show zt (Zc r.decls[i]) ≤ big by omega), zw hi (show r.decls.length ≤ big by omega)]
    cases zbN r.decls[i] <;> rfl
   ·simp only [zF, cond_false]
   ·cases r.decls.all zbN <;> rfl
  rw [hdecl]
  cases selS r.selectors == 0 with
  | false => rfl
  | true =>
   cases decide (r.decls.length ≤ 32) with
   | false => rfl
   | true =>
    cases ziG r.cond with
    | false => rfl
    | true =>
     cases hn : r.names with
     | cons a l => rfl
     | nil =>
      cases hl : r.rules with
      | cons a l => rfl
      | nil =>
       simp only [List.isEmpty_nil, List.all_nil, Bool.and_true, Bool.true_and, Bool.not_true, Bool.not_false, cond_true, cond_false]
       cases r.decls.all zbN <;> rfl
 have b1 := beq_eq_false_iff_ne.2 k1
 simp only [b1, cond_false]
 clear hrules hnames
 by_cases k2 : r.kind = 2
 ·simp only [k2, Int.reduceBEq, cond_true]
  cases r.selectors.isEmpty <;> cases r.decls.isEmpty <;> cases r.names.isEmpty <;> cases zhB r.cond <;> rfl
 have b2 := beq_eq_false_iff_ne.2 k2
 simp only [b2, cond_false]
 by_cases k3 : r.kind = 3
 ·simp only [k3, Int.reduceBEq, cond_true]
  cases r.selectors.isEmpty <;> cases r.decls.isEmpty <;> cases r.names.isEmpty <;> cases zgf r.cond <;> rfl
 have b3 := beq_eq_false_iff_ne.2 k3
 simp only [b3, cond_false]
 by_cases k4 : r.kind = 4
 ·simp only [k4, Int.reduceBEq, cond_true]
  cases r.selectors.isEmpty <;> cases r.decls.isEmpty <;> cases decide (r.names.length ≤ 1) <;> cases ziG r.cond <;> rfl
 have b4 := beq_eq_false_iff_ne.2 k4
 simp only [b4, cond_false]
 by_cases k5 : r.kind = 5
 ·simp only [k5, Int.reduceBEq, cond_true]
  cases r.selectors.isEmpty <;> cases r.decls.isEmpty <;> cases r.names.isEmpty <;> cases decide (r.names.length ≤ 64) <;> cases r.rules.isEmpty <;> cases ziG r.cond <;> rfl
 have b5 := beq_eq_false_iff_ne.2 k5
 simp only [b5, cond_false]
 rfl
theorem zv3 {c : zk} (h : ziG c = true) : c.list = [] := by
 unfold ziG at h
 rw [Bool.and_eq_true, Bool.and_eq_true] at h
 exact List.isEmpty_iff.1 h.2.1
theorem zq2 {r : zu} (h : zt (zh r) ≤ big) (hs : zy7 r = true) (h5 : (r.kind == 5) = false) : zah r = some (zs8 r : Int) := by
 have hz := zb8 r
 have hb : zt (zq r.cond) ≤ big := by omega
 have hlen := qh r.cond
 unfold zah zs8
 cases h3 : r.kind == 3 with
 | true => simp only [cond_true, zX, zlU hb, za, Option.bind_some]
 | false =>
  have := zBl (l := r.cond.list) (by omega) (fun y hy => by have := qf hy; omega)
  simp only [cond_false, za, zX]
  refine Eq.trans this ?_
  have hr : (r.cond.list.any fun y => (unw y).list.any fun z => z.kind != 4) = (bif r.kind == 2 then askB r.cond else false) := by
   unfold zy7 at hs
   rw [h3, h5] at hs
   by_cases k1 : r.kind = 1
   ·rw [k1] at hs ⊢
    simp only [Int.reduceBEq, cond_true, Bool.and_eq_true] at hs
    rw [zv3 hs.2.2.1]
    rfl
   have b1 := beq_eq_false_iff_ne.2 k1
   rw [b1] at hs
   cases h2 : r.kind == 2 with
   | true =>
    rw [h2] at hs
    simp only [cond_true, cond_false, Bool.and_eq_true] at hs
    rw [cond_true, zzj hs.2.2]
    rfl
   | false =>
    rw [h2] at hs
    cases h4 : r.kind == 4 with
    | true =>
     rw [h4] at hs
     simp only [cond_true, cond_false, Bool.and_eq_true] at hs
     rw [zv3 hs.2.2]
     rfl
    | false =>
     rw [h4] at hs
     cases hs
  rw [hr]
  cases r.kind == 2 with
  | true => cases askB r.cond <;> rfl
  | false => rfl
theorem zuf {l : List zu} (h : zL zh l ≤ big) (hs : l.all ZU = true) : za0 l = some (mx za6 l : Int) := by
 refine Zg (fun l => zL zh l) (fun l => zL zh l ≤ big ∧ l.all ZU = true) (fun l => (mx za6 l : Int)) (fun S l hl hS => ?_) ⟨h, hs⟩
 obtain ⟨hl, hs⟩ := hl
 have hlen := Zm zan l
 unfold zf8
 refine (zeM l za6 (fun a i => ((a : Int), (i : Int))) (fun a => (a : Int)) (a0 := 0) rfl (fun i a hi => ?_) (fun a => ?_)).trans (by rw [Nat.zero_max])
 ·have hm := ZA (f := zh) (List.getElem_mem hi)
  have hz := zb8 l[i]
  have hld := Zm zaS l[i].decls
  have hsh := List.all_eq_true.1 hs _ (List.getElem_mem hi)
  have hd := ztf l[i]
  rw [zqx, Bool.and_eq_true, Bool.and_eq_true] at hsh
  simp only [zM hi, cond_true, zH hi, za, Option.bind_some]
  cases h5 : l[i].kind == 5 with
  | true =>
   rw [h5, cond_true] at hd
   simp only [cond_true, zJ, zw hi (show l.length ≤ big by omega), hd, Nat.max_zero]
  | false =>
   rw [h5, cond_false] at hd
   have hrd := zsG l[i].rules
   have hdd := zmt l[i].decls
   rw [hS l[i].rules ⟨show zL zh l[i].rules ≤ big by omega, hsh.2.2⟩ (show zL zh l[i].rules < zL zh l by omega)]
   simp only [cond_false, Option.bind_some]
   have hdecl : ∀ (R : Type) (k : Int → Option R), zN (fun (s5 : Int × Int) =>
         bif decide (s5.2 < (l[i].decls.length : Int)) then
          (geti l[i].decls s5.2).bind fun y8 =>
          (ZP y8.value).bind fun y9 =>
          some (LO.again (if y9 > s5.1 then y9 else s5.1, w64 (s5.2 + 1)))
         else
          some (LO.out s5.1) : Int × Int → Option (LO (Int × Int) (Int) _)) ((mx za6 l[i].rules : Int), 0) k = k ((max (mx za6 l[i].rules) (mx (fun d => qO d.value) l[i].decls) : Nat) : Int) := by
    intro R k
    refine zeM l[i].decls (fun d => qO d.value) (fun a i => ((a : Int), (i : Int))) (fun a => (a : Int)) (a0 := mx za6 l[i].rules) rfl (fun j b hj => ?_) (fun b => ?_)
    ·have hm2 := ZA (f := Zc) (List.getElem_mem hj)
     have hz2 := QL l[i].decls[j]
     have hv := zhd l[i].decls[j].value
     simp only [zM hj, cond_true, zH hj, Option.bind_some, zor (show szL l[i].decls[j].value ≤ big by omega), zw hj (show l[i].decls.length ≤ big by omega), zgV]
    ·simp only [zF, cond_false]
   rw [hdecl]
   have hw : w64 (1 + ((max (mx za6 l[i].rules) (mx (fun d => qO d.value) l[i].decls) : Nat) : Int)) = ((1 + max (mx za6 l[i].rules) (mx (fun d => qO d.value) l[i].decls) : Nat) : Int) := by
    rw [zuP (by omega), Nat.add_comm]
   simp only [zX, zcQ, zmV (show zL ze l[i].selectors ≤ big by omega), zq2 (show zt (zh l[i]) ≤ big by omega) hsh.1 h5, Option.bind_some, zJ, hw, zgV, zw hi (show l.length ≤ big by omega)]
   rw [hd]
   have : max (max (max a (1 + max (mx za6 l[i].rules) (mx (fun d => qO d.value) l[i].decls))) (selL l[i].selectors)) (zs8 l[i]) = max a (max (1 + max (mx za6 l[i].rules) (mx (fun d => qO d.value) l[i].decls)) (max (selL l[i].selectors) (zs8 l[i]))) := by omega
   rw [this]
 ·simp only [zF, cond_false]
def zbK (l : List zu) : Bool := decide (ZM l ≤ 64) && (l.all ZU && decide (mx za6 l ≤ 16))
theorem zrR {l : List zu} (h : zL zh l ≤ big) : zfK l = some (zbK l) := by
 have hlen := Zm zan l
 have e64 : decide ((ZM l : Int) > 64) = !decide (ZM l ≤ 64) := Q6 _ 64
 unfold zfK zbK
 simp only [zc3 h, za, Option.bind_some, e64]
 cases decide (ZM l ≤ 64) with
 | false => rfl
 | true =>
  simp only [Bool.not_true, cond_false, Bool.true_and]
  refine (zCK l ZU false (fun i hi => ?_) ?_).trans ?_
  ·have hm := ZA (f := zh) (List.getElem_mem hi)
   simp only [zM hi, cond_true, zH hi, Option.bind_some, zX, zcQ, zql (show zt (zh l[i]) ≤ big by omega), zw hi (show l.length ≤ big by omega)]
   cases ZU l[i] <;> rfl
  ·simp only [zF, cond_false]
  ·cases hs : l.all ZU with
   | false => rfl
   | true =>
    have e16 : decide ((mx za6 l : Int) ≤ 16) = decide (mx za6 l ≤ 16) := znz _ 16
    simp only [cond_true, zuf h hs, Option.bind_some, e16, Bool.true_and]
theorem zgA {s : Zo} (h : zL zh s.rules ≤ big) : zaD s = some (bif zbK s.rules then 0 else 8) := by
 unfold zaD
 simp only [zrR h, za, Option.bind_some]
 cases zbK s.rules <;> rfl
end Go.Lv.VT

namespace Go.Lv.VT
theorem zCL {A S X R : Type} {step : S → Option (LO S X R)} (n : Nat) (st : Nat → A → S) (Inv : Nat → A → Prop) (Q : X → Prop) {s0 : S} {a0 : A} (h0 : s0 = st 0 a0) (hI : Inv 0 a0)
  (hg : ∀ (i : Nat) (a : A), i < n → Inv i a → ∃ a', step (st i a) = some (.again (st (i + 1) a')) ∧ Inv (i + 1) a')
  (hf : ∀ a, Inv n a → ∃ x, step (st n a) = some (.out x) ∧ Q x) : ∃ x, zmC step s0 = some (.out x) ∧ Q x := by
 have key : ∀ (m i : Nat) (a : A), i + m = n → Inv i a → ∃ j x, Z8 step j (st i a) = some (.out x) ∧ Q x := by
  intro m
  induction m with
  | zero =>
   intro i a hi ha
   obtain rfl : i = n := by omega
   obtain ⟨x, h1, h2⟩ := hf a ha
   exact ⟨1, x, by simp only [Z8, h1], h2⟩
  | succ m ih =>
   intro i a hi ha
   obtain ⟨a', h1, h2⟩ := hg i a (by omega) ha
   obtain ⟨j, x, g1, g2⟩ := ih (i + 1) a' (by omega) h2
   exact ⟨j + 1, x, by simp only [Z8, h1]; exact g1, g2⟩
 obtain ⟨j, x, h1, h2⟩ := key n 0 a0 (by omega) hI
 exact ⟨x, by rw [h0]; exact zbv h1, h2⟩
theorem zyX {R : Type} {l : List Zh} (h : zL Zc l ≤ big) (b0 : Bool) (f0 : zo) :
  ∃ x : Bool × zo, zmC (fun (s8 : (Bool × Int) × zo) =>
         bif decide (s8.1.2 < (l.length : Int)) then
          (geti l s8.1.2).bind fun y9 =>
          (Q9 y9.value).bind fun y10 =>
          (zz (!(bif s8.1.1 then true else !(y10.2 == 0))) (zbt y9) (default : Int)).bind fun y11 =>
          some (LO.again ((bif bif s8.1.1 then true else !(y10.2 == 0) then true else !(y11 == 0), w64 (s8.1.2 + 1)), (⟨s8.2.rules, if y10.1 > s8.2.depth then y10.1 else s8.2.depth, s8.2.bad⟩ : zo)))
         else
          some (LO.out (s8.1.1, s8.2)) : (Bool × Int) × zo → Option (LO ((Bool × Int) × zo) (Bool × zo) R)) ((b0, 0), f0) = some (.out x) ∧
   x.1 = (b0 || !l.all zbN) ∧ x.2.rules = f0.rules ∧ ∀ n : Nat, f0.depth = (n : Int) → l.all zbN = true → x.2.depth = ((max n (mx (fun d => qO d.value) l) : Nat) : Int) := by
 have hlen := Zm zaS l
 refine zCL (A := Bool × zo) l.length (fun i a => ((a.1, (i : Int)), a.2)) (fun i a => a.1 = (b0 || !(l.take i).all zbN) ∧ a.2.rules = f0.rules ∧ ∀ n : Nat, f0.depth = (n : Int) → (l.take i).all zbN = true → a.2.depth = ((max n (mx (fun d => qO d.value) (l.take i)) : Nat) : Int)) _ (a0 := (b0, f0)) rfl
  ⟨by simp, rfl, fun n hn _ => by simp [mx, hn]⟩ (fun i a hi hI => ?_) (fun a hI => ?_)
 ·obtain ⟨i1, i2, i3⟩ := hI
  have hm := ZA (f := Zc) (List.getElem_mem hi)
  have hz := QL l[i]
  have hv := zhd l[i].value
  have hde : zbN l[i] = (zbN l[i] && (errS l[i].value == 0)) := by
   unfold zbN
   cases znO l[i].name <;> cases errS l[i].value == 0 <;> simp
  simp only [zM hi, cond_true, zH hi, Option.bind_some, zmH (show szL l[i].value ≤ big by omega), zld (show zt (Zc l[i]) ≤ big by omega), zD, zw hi (show l.length ≤ big by omega)]
  refine ⟨(_, _), rfl, ?_, i2, fun n hn hall => ?_⟩
  ·rw [zi9 zbN hi, i1]
   simp only
   by_cases he : errS l[i].value = 0
   ·rw [if_pos he]
    cases b0 <;> cases (l.take i).all zbN <;> cases zbN l[i] <;> rfl
   ·rw [if_neg he]
    have he' := beq_eq_false_iff_ne.2 he
    rw [he', Bool.and_false] at hde
    simp only [he', hde]
    cases b0 <;> cases (l.take i).all zbN <;> rfl
  ·rw [zi9 zbN hi, Bool.and_eq_true] at hall
   have hd := i3 n hn hall.1
   rw [hall.2, Bool.true_and] at hde
   have he : errS l[i].value = 0 := by rw [← beq_iff_eq, ← hde]
   rw [zpN _ hi]
   simp only [if_pos he, hd, zgV]
   rw [Nat.max_assoc]
 ·rw [List.take_length] at hI
  exact ⟨(a.1, a.2), by simp only [zF, cond_false], hI⟩
theorem zCi {R : Type} {l : List Zh} (h : zL Zc l ≤ big) {b0 : Bool} {f0 : zo} {k : Bool × zo → Option R} (G : Option R → Prop)
  (hk : ∀ x : Bool × zo, x.1 = (b0 || !l.all zbN) → x.2.rules = f0.rules → (∀ n : Nat, f0.depth = (n : Int) → l.all zbN = true → x.2.depth = ((max n (mx (fun d => qO d.value) l) : Nat) : Int)) → G (k x)) :
  G (zN (fun (s8 : (Bool × Int) × zo) =>
         bif decide (s8.1.2 < (l.length : Int)) then
          (geti l s8.1.2).bind fun y9 =>
          (Q9 y9.value).bind fun y10 =>
          (zz (!(bif s8.1.1 then true else !(y10.2 == 0))) (zbt y9) (default : Int)).bind fun y11 =>
          some (LO.again ((bif bif s8.1.1 then true else !(y10.2 == 0) then true else !(y11 == 0), w64 (s8.1.2 + 1)), (⟨s8.2.rules, if y10.1 > s8.2.depth then y10.1 else s8.2.depth, s8.2.bad⟩ : zo)))
         else
          some (LO.out (s8.1.1, s8.2)) : (Bool × Int) × zo → Option (LO ((Bool × Int) × zo) (Bool × zo) R)) ((b0, 0), f0) k) := by
 obtain ⟨x, hx, h1, h2, h3⟩ := zyX (R := R) h b0 f0
 rw [zAL hx]
 exact hk x h1 h2 h3
theorem zCC {X R : Type} {m : Option (LX X R)} {k : X → Option R} (G : Option R → Prop) (P : X → Prop) (h : ∃ o, m = some (.out o) ∧ P o) (hk : ∀ o, P o → G (k o)) : G (zZ m k) := by
 obtain ⟨o, rfl, ho⟩ := h
 exact hk o ho
theorem zC8 (a b : Nat) (h : a + b ≤ big) : decide (w64 ((a : Int) + (b : Int)) > 0) = !(decide (a = 0) && decide (b = 0)) := by
 rw [zm8 h]
 cases a with
 | zero => cases b with
  | zero => rfl
  | succ b => exact decide_eq_true (by omega)
 | succ a =>
  rw [decide_eq_true (by omega), decide_eq_false (show ¬ (a + 1 = 0) by omega)]
  rfl
theorem zwJ {α β : Type} (l : List α) (m : List β) (h : l.length + m.length ≤ big) : decide (w64 ((l.length : Int) + (m.length : Int)) > 0) = !(l.isEmpty && m.isEmpty) := by
 rw [zC8 _ _ h]
 cases l <;> cases m <;> simp
theorem zzl {l : List (List Str)} (hl : l.length ≤ big) (h : ∀ n ∈ l, n.length ≤ big) : ZK l = some (!l.all zhH) := by
 unfold ZK qV
 refine zeJ (zeL l (fun c => !zhH c) hl (fun i hi => ?_) ?_) ((zdG _ _).trans (zmi _ _))
 ·have : zen l[i] = some (!zhH l[i]) := by
   unfold zen
   simp only [zrW (h _ (List.getElem_mem hi)), za, Option.bind_some]
  simp only [zM hi, cond_true, zH hi, za, Option.bind_some, this]
 ·simp only [zF, cond_false]
def zDj (l : List zu) (y : zo) : Prop := y.rules = (ZM l : Int) ∧ y.bad = !(l.all ZU) ∧ (l.all ZU = true → y.depth = (mx za6 l : Int))
theorem zzm {l : List zu} {i : Nat} (hi : i < l.length) : ZM (l.take (i + 1)) = ZM (l.take i) + numR l[i] := by
 rw [zlB, zlB, zge numR hi]
theorem ztF (l : List zu) (i : Nat) : ZM (l.take i) ≤ ZM l := by
 rw [zlB, zlB]
 exact zfN numR l i
theorem zrV {l : List zu} (h : zL zh l ≤ big) : ∃ y, zal l = some y ∧ zDj l y := by
 refine zf2 zpK (fun l => zL zh l) (fun l => zL zh l ≤ big) zDj (fun S l hl hS => ?_) h
 have hlen := Zm zan l
 have hnl := zop l
 unfold zcA
 refine zlt (A := zo) l.length (fun i a => ((i : Int), a)) (fun i a => a.rules = (ZM (l.take i) : Int) ∧ a.bad = !((l.take i).all ZU) ∧ ((l.take i).all ZU = true → a.depth = (mx za6 (l.take i) : Int))) _ (a0 := ⟨0, 0, false⟩) rfl
  ⟨by simp [ZM], by simp, fun _ => by simp [mx]⟩ (fun i a hi hI => .inl ?_) (fun a hI => .inl ?_)
 ·obtain ⟨i1, i2, i3⟩ := hI
  have hm := ZA (f := zh) (List.getElem_mem hi)
  have ht := zzm hi
  have ht2 := ztF l (i + 1)
  have hnr := zxx l[i]
  have hz := zb8 l[i]
  have hcp := zmf l[i].cond
  have hls := Zm qj l[i].selectors
  have hld := Zm zaS l[i].decls
  have hlr := Zm zan l[i].rules
  have hrd := zsG l[i].rules
  obtain ⟨hn1, hn2⟩ := zwV l[i].names
  obtain ⟨f, hf1, hf2, hf3, hf4⟩ := hS l[i].rules (by omega) (by omega)
  have hnames := zzl (l := l[i].names) (by omega) (fun n hn => by have := (hn2 n hn).1; omega)
  obtain ⟨told, htold1, htold2⟩ := zrX (c := l[i].cond) (by omega)
  have e32 : decide ((l[i].decls.length : Int) > 32) = !decide (l[i].decls.length ≤ 32) := Q6 _ 32
  have e64 : decide ((l[i].names.length : Int) > 64) = !decide (l[i].names.length ≤ 64) := Q6 _ 64
  have hsh := zqx l[i]
  have hde := ztf l[i]
  have hw1 : w64 (f.rules + 1) = ((numR l[i] : Nat) : Int) := by rw [hf2, hnr, zhQ (by omega), Nat.add_comm]
  have hw2 : w64 (a.rules + ((numR l[i] : Nat) : Int)) = ((ZM (l.take (i + 1)) : Nat) : Int) := by rw [i1, zm8 (by omega), ht]
  -- what is to be shown of a round
  have fin : ∀ (o : (Int × Bool) × zo × zo), o.2.1 = ⟨((ZM (l.take (i + 1)) : Nat) : Int), a.depth, a.bad⟩ → o.1.2 = !(ZU l[i]) → (ZU l[i] = true → ∃ e n : Nat, o.1.1 = (e : Int) ∧ w64 (o.2.2.depth + 1) = (n : Int) ∧ max n e = za6 l[i]) →
    ∃ a' : zo, (some (LO.again (w64 ((i : Int) + 1), (⟨o.2.1.rules, if o.1.1 > (if w64 (o.2.2.depth + 1) > o.2.1.depth then w64 (o.2.2.depth + 1) else o.2.1.depth) then o.1.1 else if w64 (o.2.2.depth + 1) > o.2.1.depth then w64 (o.2.2.depth + 1) else o.2.1.depth, bif o.2.1.bad then true else o.1.2⟩ : zo))) : Option (LO (Int × zo) zo zo)) = some (.again (((i + 1 : Nat) : Int), a')) ∧
     (a'.rules = (ZM (l.take (i + 1)) : Int) ∧ a'.bad = !((l.take (i + 1)).all ZU) ∧ ((l.take (i + 1)).all ZU = true → a'.depth = (mx za6 (l.take (i + 1)) : Int))) := by
   intro o ho1 ho2 ho3
   rw [zw hi (show l.length ≤ big by omega)]
   refine ⟨_, rfl, ?_, ?_, fun hall => ?_⟩
   ·simp only [ho1]
   ·simp only [ho1]
    rw [zi9 ZU hi, i2, ho2]
    cases (l.take i).all ZU <;> cases ZU l[i] <;> rfl
   ·rw [zi9 ZU hi, Bool.and_eq_true] at hall
    obtain ⟨e, n, h1, h2, h3⟩ := ho3 hall.2
    have hd := i3 hall.1
    simp only [ho1]
    rw [zpN _ hi, h1, h2, hd, zgV, zgV, ← h3, Nat.max_assoc]
  simp only [zM hi, cond_true, zH hi, za, Option.bind_some, hf1, hnames]
  refine zCC (fun (q : Option (LO (Int × zo) zo zo)) => ∃ a' : zo, q = some (LO.again (((i + 1 : Nat) : Int), a')) ∧ (a'.rules = (ZM (l.take (i + 1)) : Int) ∧ a'.bad = !((l.take (i + 1)).all ZU) ∧ ((l.take (i + 1)).all ZU = true → a'.depth = (mx za6 (l.take (i + 1)) : Int))))
   (fun o => o.2.1 = ⟨((ZM (l.take (i + 1)) : Nat) : Int), a.depth, a.bad⟩ ∧ o.1.2 = !(ZU l[i]) ∧ (ZU l[i] = true → ∃ e n : Nat, o.1.1 = (e : Int) ∧ w64 (o.2.2.depth + 1) = (n : Int) ∧ max n e = za6 l[i])) ?_ (fun o ho => fin o ho.1 ho.2.1 ho.2.2)
  simp only [zX, zrU, zmX (show zL ze l[i].selectors ≤ big by omega), zn1 (show zL ze l[i].selectors ≤ big by omega), Option.bind_some,
   zrT (show zt (zq l[i].cond) ≤ big by omega), zla (show zt (zq l[i].cond) ≤ big by omega), zio (show zt (zq l[i].cond) ≤ big by omega), htold1, zD, e32, e64, hw1, hw2, hf3,
   zwJ l[i].selectors l[i].decls (by omega), zwJ l[i].names l[i].rules (by omega), zAr, zDq, zfr, bne]
  unfold zy7 zyN at hsh
  unfold zs8 at hde
  -- the depth of the rules in it
  have hdeep : l[i].rules.all ZU = true → w64 (f.depth + 1) = ((mx za6 l[i].rules + 1 : Nat) : Int) := fun ha => by rw [hf4 ha, zhQ (by omega)]
  have hnone : l[i].selectors.isEmpty = true → l[i].decls.isEmpty = true → selL l[i].selectors = 0 ∧ mx (fun d => qO d.value) l[i].decls = 0 := fun h1 h2 => by
   rw [List.isEmpty_iff.1 h1, List.isEmpty_iff.1 h2]
   exact ⟨by rw [selL], rfl⟩
  by_cases k1 : l[i].kind = 1
  ·simp only [k1, Int.reduceBEq, cond_true, cond_false] at hsh hde ⊢
   refine zCi (l := l[i].decls) (by omega) (fun (q : Option (LX ((Int × Bool) × zo × zo) (LO (Int × zo) zo zo))) => ∃ o, q = some (LX.out o) ∧ (o.2.1 = ⟨((ZM (l.take (i + 1)) : Nat) : Int), a.depth, a.bad⟩ ∧ o.1.2 = !(ZU l[i]) ∧ (ZU l[i] = true → ∃ e n : Nat, o.1.1 = (e : Int) ∧ w64 (o.2.2.depth + 1) = (n : Int) ∧ max n e = za6 l[i]))) (fun x h1 h2 h3 => ⟨_, rfl, rfl, ?_, fun hok => ?_⟩)
   ·simp only [h1, hsh]
    cases l[i].rules.all ZU <;> cases l[i].names.all zhH <;> simp only [Bool.not_true, Bool.not_false, cond_true, cond_false] <;> cases selS l[i].selectors == 0 <;> cases decide (l[i].decls.length ≤ 32) <;> cases ziG l[i].cond <;> cases l[i].names.isEmpty <;> cases l[i].rules.isEmpty <;> cases l[i].decls.all zbN <;> rfl
   ·rw [hok] at hsh
    have hsh := hsh.symm
    simp only [Bool.and_eq_true] at hsh
    have hdl := zmt l[i].decls
    refine ⟨selL l[i].selectors, max (mx za6 l[i].rules) (mx (fun d => qO d.value) l[i].decls) + 1, rfl, ?_, by rw [hde]; omega⟩
    simp only [h3 _ (hf4 hsh.2.2) hsh.1.2.2.2.2.2]
    rw [zhQ (by omega)]
  have b1 := beq_eq_false_iff_ne.2 k1
  rw [b1] at hsh ⊢
  simp only [cond_false] at hsh ⊢
  by_cases k2 : l[i].kind = 2
  ·simp only [k2, Int.reduceBEq, cond_true, cond_false] at hsh hde ⊢
   refine ⟨_, rfl, rfl, ?_, fun hok => ?_⟩
   ·simp only [hsh]
    cases l[i].rules.all ZU <;> cases l[i].names.all zhH <;> cases l[i].selectors.isEmpty <;> cases l[i].decls.isEmpty <;> cases l[i].names.isEmpty <;> cases zhB l[i].cond <;> rfl
   ·rw [hok] at hsh
    have hsh := hsh.symm
    simp only [Bool.and_eq_true] at hsh
    obtain ⟨g1, g2⟩ := hnone hsh.1.1.1 hsh.1.1.2
    refine ⟨bif askB l[i].cond then 1 else 0, _, ?_, hdeep hsh.2.2, by rw [hde, g1, g2]; cases askB l[i].cond <;> simp only [cond_true, cond_false] <;> omega⟩
    cases askB l[i].cond <;> rfl
  have b2 := beq_eq_false_iff_ne.2 k2
  rw [b2] at hsh hde ⊢
  simp only [cond_false] at hsh hde ⊢
  by_cases k3 : l[i].kind = 3
  ·simp only [k3, Int.reduceBEq, cond_true, cond_false] at hsh hde ⊢
   refine ⟨_, rfl, rfl, ?_, fun hok => ?_⟩
   ·simp only [hsh]
    cases l[i].rules.all ZU <;> cases l[i].names.all zhH <;> cases l[i].selectors.isEmpty <;> cases l[i].decls.isEmpty <;> cases l[i].names.isEmpty <;> cases zgf l[i].cond <;> rfl
   ·rw [hok] at hsh
    have hsh := hsh.symm
    simp only [Bool.and_eq_true] at hsh
    obtain ⟨g1, g2⟩ := hnone hsh.1.1.1 hsh.1.1.2
    have hsup : supC l[i].cond = true := by
     have := hsh.1.2.2
     unfold zgf at this
     rw [Bool.and_eq_true] at this
     exact this.1
    refine ⟨zbO l[i].cond, _, htold2 hsup, hdeep hsh.2.2, by rw [hde, g1, g2]; omega⟩
  have b3 := beq_eq_false_iff_ne.2 k3
  rw [b3] at hsh hde ⊢
  simp only [cond_false] at hsh hde ⊢
  by_cases k4 : l[i].kind = 4
  ·simp only [k4, Int.reduceBEq, cond_true, cond_false] at hsh hde ⊢
   refine ⟨_, rfl, rfl, ?_, fun hok => ?_⟩
   ·simp only [hsh]
    cases l[i].rules.all ZU <;> cases l[i].names.all zhH <;> cases l[i].selectors.isEmpty <;> cases l[i].decls.isEmpty <;> cases decide (l[i].names.length ≤ 1) <;> cases ziG l[i].cond <;> rfl
   ·rw [hok] at hsh
    have hsh := hsh.symm
    simp only [Bool.and_eq_true] at hsh
    obtain ⟨g1, g2⟩ := hnone hsh.1.1.1 hsh.1.1.2
    exact ⟨0, _, rfl, hdeep hsh.2.2, by rw [hde, g1, g2]; omega⟩
  have b4 := beq_eq_false_iff_ne.2 k4
  rw [b4] at hsh ⊢
  simp only [cond_false] at hsh ⊢
  by_cases k5 : l[i].kind = 5
  ·simp only [k5, Int.reduceBEq, cond_true, cond_false] at hsh hde ⊢
   refine ⟨_, rfl, rfl, ?_, fun hok => ?_⟩
   ·simp only [hsh]
    have hn1 : decide ((l[i].names.length : Int) < 1) = l[i].names.isEmpty := zfr _
    cases l[i].rules.all ZU <;> cases l[i].names.all zhH <;> cases l[i].selectors.isEmpty <;> cases l[i].decls.isEmpty <;> cases l[i].names.isEmpty <;> cases decide (l[i].names.length ≤ 64) <;> cases l[i].rules.isEmpty <;> cases ziG l[i].cond <;> rfl
   ·exact ⟨0, 0, rfl, rfl, by rw [hde]; rfl⟩
  have b5 := beq_eq_false_iff_ne.2 k5
  rw [b5] at hsh ⊢
  simp only [cond_false] at hsh ⊢
  refine ⟨_, rfl, rfl, by simp only [hsh]; rfl, fun hok => ?_⟩
  rw [hok] at hsh
  cases hsh
 ·rw [List.take_length] at hI
  exact ⟨a, by simp only [zF, cond_false], a, rfl, hI⟩
theorem zkh {l : List zu} (h : zL zh l ≤ big) : zcg l = some (bif zbK l then 0 else 8) := by
 obtain ⟨y, h1, h2, h3, h4⟩ := zrV h
 have e64 : decide ((ZM l : Int) > 64) = !decide (ZM l ≤ 64) := Q6 _ 64
 have e16 : decide ((mx za6 l : Int) > 16) = !decide (mx za6 l ≤ 16) := Q6 _ 16
 unfold zcg zbK
 simp only [h1, za, Option.bind_some, h2, h3, e64]
 cases hs : l.all ZU with
 | false => cases decide (ZM l ≤ 64) <;> rfl
 | true =>
  rw [h4 hs, e16]
  cases decide (ZM l ≤ 64) <;> cases decide (mx za6 l ≤ 16) <;> rfl
end Go.Lv.VT
