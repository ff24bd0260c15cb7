/- Copies of rules, and rules that are the same as themselves. -/
import Derived.Test.YtnfhfeipljhciaaGreatLax
namespace Go.Lv.VT
theorem zeK {X R : Type} {step : Int → Option (LO Int X R)} {k : X → Option R} (n : Nat) (x : X) (h : ∀ i, i < n → step (i : Int) = some (.again ((i + 1 : Nat) : Int))) (hf : step (n : Int) = some (.out x)) : zN step 0 k = k x := by
 refine (zon (List.replicate n ()) (fun i (_ : Unit) => (i : Int)) (fun v (_ : Unit) => some (.again ())) (fun _ => some (.out x)) (a := ()) rfl (fun i a hi => ?_) (fun a => ?_) (r := .out x) ?_)
 ·rw [h i (by simpa using hi)]; rfl
 ·rw [List.length_replicate, hf]; rfl
 ·rw [zct (fun a v => a) (fun v a => rfl)]
theorem ziC {α R : Type} {step : Int × List α → Option (LO (Int × List α) (List α) R)} {k : List α → Option R} (l : List α) (h : ∀ i, i < l.length → step ((i : Int), l) = some (.again (((i + 1 : Nat) : Int), l))) (hf : step ((l.length : Int), l) = some (.out l)) :
  zN step (0, l) k = k l := by
 refine (zon l (fun i (_ : Unit) => ((i : Int), l)) (fun v (_ : Unit) => some (.again ())) (fun _ => some (.out l)) (a := ()) rfl (fun i a hi => ?_) (fun a => ?_) (r := .out l) ?_)
 ·rw [h i hi]; rfl
 ·rw [hf]; rfl
 ·rw [zct (fun a v => a) (fun v a => rfl)]
theorem zDM {R : Type} (x : Option R) : both x x = x := by
 unfold both; rw [if_pos rfl]
theorem zdD {α : Type} (l : List α) (n : Nat) (h : (0 + l.length) * n ≤ 140737488355328) : (bif l.isEmpty then both (some []) (need (qw 0 l.length n) <| some l) else need (qw 0 l.length n) <| some l) = some l := by
 rw [zdA h]
 cases l with
 | nil => exact zDM _
 | cons v r => rfl
theorem set_self {α : Type} (l : List α) (i : Nat) (h : i < l.length) (y : α) (hy : y = l[i]) : l.set i y = l := by
 subst hy
 exact List.set_getElem_self h
theorem zoc {α : Type} (l : List α) (i : Nat) (h : i < l.length) (y : α) (hy : y = l[i]) : l.take i ++ List.cons y (l.drop (i + 1)) = l := by
 subst hy
 rw [List.getElem_cons_drop, List.take_append_drop]
theorem nn (i : Nat) : decide ((0 : Int) ≤ (i : Int)) = true := decide_eq_true (by omega)
theorem zD0 (v : zf) : (⟨v.token, v.list⟩ : zf) = v := by cases v; rfl
theorem zAm (v : Zh) : (⟨v.name, v.value, v.important⟩ : Zh) = v := by cases v; rfl
theorem zDY (v : zb) : (⟨v.lead, v.parts, v.combs⟩ : zb) = v := by cases v; rfl
theorem zDX (v : zA) : (⟨v.tag, v.simples⟩ : zA) = v := by cases v; rfl
theorem zDZ (v : zy) : (⟨v.kind, v.name, v.op, v.value, v.fold, v.anb, v.of_, v.list⟩ : zy) = v := by cases v; rfl
theorem zx0 {α : Type} {l : List α} {i : Nat} (h : i < l.length) : Nat.beq i (l.take i).length = true := by
 rw [List.length_take, Nat.min_eq_left (Nat.le_of_lt h)]; exact Nat.beq_refl i
theorem zi0 {l : List zf} (h : szL l ≤ big) : ZO l = some l := by
 refine Zg (fun l => szL l) (fun l => szL l ≤ big) (fun l => l) (fun S l hl hS => ?_) h
 unfold zdT
 have hlen := zcj l
 have hc : za4 l = some l := zdD l 80 (by unfold big at hl; omega)
 simp only [za, hc, Option.bind_some]
 refine ziC l (fun i hi => ?_) ?_
 ·have hsz := zet (List.getElem_mem hi)
  have hv2 := zhe l[i]
  have h1 : S l[i].list = some l[i].list := hS l[i].list (by omega) (by omega)
  simp only [decide_eq_true (show (i : Int) < (l.length : Int) by omega), cond_true, nn, Bool.and_self, ZT, List.getElem?_eq_getElem hi, Option.bind_some, h1, Int.toNat_natCast, zw hi (by omega)]
  rw [set_self l i hi _ (zD0 _)]
 ·simp only [zF, cond_false]
theorem zrS {l : List Zh} (h : zL Zc l ≤ big) : zdz l = some l := by
 unfold zdz
 have hlen := Zm zaS l
 have hc : zbF l = some l := zdD l 48 (by unfold big at h; omega)
 simp only [za, hc, Option.bind_some]
 refine ziC l (fun i hi => ?_) ?_
 ·have hsz := ZA (f := Zc) (List.getElem_mem hi)
  have hv2 := QL l[i]
  have hs := zhd l[i].value
  have h1 : ZO l[i].value = some l[i].value := zi0 (by omega)
  simp only [decide_eq_true (show (i : Int) < (l.length : Int) by omega), cond_true, nn, Bool.and_self, ZT, List.getElem?_eq_getElem hi, Option.bind_some, h1, Int.toNat_natCast, zw hi (by omega)]
  rw [set_self l i hi _ (zAm _)]
 ·simp only [zF, cond_false]
theorem zlW {c : zk} (h : zt (zq c) ≤ big) : ZE c = some c := by
 refine Zg (fun c => zt (zq c)) (fun c => zt (zq c) ≤ big) (fun l => l) (fun S c hl hS => ?_) h
 unfold zbB
 have hlen := qh c
 have hd := zhg c
 rw [QL] at hd
 have hs := zhd c.decl.value
 have h0 : ZO c.decl.value = some c.decl.value := zi0 (by omega)
 have hc : zbE c.list = some c.list := zdD c.list 104 (by unfold big at hl; omega)
 simp only [za, h0, hc, Option.bind_some]
 refine (ziC c.list (fun i hi => ?_) ?_).trans (congrArg some (by rw [zAm, zX]))
 ·have hsz := qf (List.getElem_mem hi)
  have h1 : S c.list[i] = some c.list[i] := hS c.list[i] (by omega) hsz
  simp only [decide_eq_true (show (i : Int) < (c.list.length : Int) by omega), cond_true, nn, Bool.and_self, ZT, List.getElem?_eq_getElem hi, Option.bind_some, zX, h1, Int.toNat_natCast, zw hi (by omega)]
  rw [set_self c.list i hi _ rfl]
 ·simp only [zF, cond_false]
theorem zBD {R : Type} {S : List zb → Option (List zb)} {l : List zy} {k : List zy → Option R} (hl : l.length ≤ big) (hS : ∀ x ∈ l, S x.list = some x.list) : zN (fun (s11 : Int × List zy) =>
         bif decide (s11.1 < (l.length : Int)) then
          need (decide (0 ≤ s11.1) && decide (s11.1 < (s11.2.length : Int))) <|
          za s11.2[s11.1.toNat]? fun y12 =>
          za (S y12.list) fun y13 =>
          need (decide (0 ≤ s11.1) && decide (s11.1 < (s11.2.length : Int))) <|
          za s11.2[s11.1.toNat]? fun y14 =>
          some (LO.again (w64 (s11.1 + 1), List.set s11.2 s11.1.toNat (⟨y14.kind, y14.name, y14.op, y14.value, y14.fold, y14.anb, y14.of_, y13⟩ : zy)))
         else
          some (LO.out s11.2) : Int × List zy → Option (LO (Int × List zy) (List zy) R)) (0, l) k = k l := by
 refine ziC l (fun m hm => ?_) ?_
 ·have h1 := hS l[m] (List.getElem_mem hm)
  simp only [decide_eq_true (show (m : Int) < (l.length : Int) by omega), cond_true, nn, Bool.and_self, ZT, List.getElem?_eq_getElem hm, za, Option.bind_some, h1, Int.toNat_natCast, zw hm hl]
  rw [set_self l m hm _ (zDZ _)]
 ·simp only [zF, cond_false]
theorem zAa {R : Type} {S : List zb → Option (List zb)} {l : List zA} {k : List zA → Option R} {b : Bool} (hb : b = true) (hl : l.length ≤ big) (hs : ∀ x ∈ l, x.simples.length ≤ big) (hS : ∀ x ∈ l, ∀ y ∈ x.simples, S y.list = some y.list) : zN (fun (s8 : Int × List zA) =>
      bif decide (s8.1 < (l.length : Int)) then
       need b <|
       need (decide (0 ≤ s8.1) && decide (s8.1 < (s8.2.length : Int))) <|
       za s8.2[s8.1.toNat]? fun y9 =>
       za (Qo y9.simples) fun y10 =>
       zN (fun (s11 : Int × List zy) =>
         bif decide (s11.1 < (y10.length : Int)) then
          need (decide (0 ≤ s11.1) && decide (s11.1 < (s11.2.length : Int))) <|
          za s11.2[s11.1.toNat]? fun y12 =>
          za (S y12.list) fun y13 =>
          need (decide (0 ≤ s11.1) && decide (s11.1 < (s11.2.length : Int))) <|
          za s11.2[s11.1.toNat]? fun y14 =>
          some (LO.again (w64 (s11.1 + 1), List.set s11.2 s11.1.toNat (⟨y14.kind, y14.name, y14.op, y14.value, y14.fold, y14.anb, y14.of_, y13⟩ : zy)))
         else
          some (LO.out s11.2) : Int × List zy → Option (LO (Int × List zy) (List zy) _)) (0, y10) fun o15 =>
       need b <|
       need (decide (0 ≤ s8.1) && decide (s8.1 < (s8.2.length : Int))) <|
       za s8.2[s8.1.toNat]? fun y16 =>
       some (LO.again (w64 (s8.1 + 1), List.take s8.1.toNat s8.2 ++ List.cons (⟨y16.tag, o15⟩ : zA) (List.drop (s8.1.toNat + 1) s8.2)))
      else
       some (LO.out s8.2) : Int × List zA → Option (LO (Int × List zA) (List zA) R)) (0, l) k = k l := by
 subst hb
 refine ziC l (fun j hj => ?_) ?_
 ·have h0 := hs l[j] (List.getElem_mem hj)
  have h1 := hS l[j] (List.getElem_mem hj)
  have hcs : Qo l[j].simples = some l[j].simples := zdD l[j].simples 104 (by unfold big at h0; omega)
  simp only [decide_eq_true (show (j : Int) < (l.length : Int) by omega), cond_true, nn, Bool.and_self, ZT, List.getElem?_eq_getElem hj, za, Option.bind_some, Int.toNat_natCast, hcs, zw hj hl]
  refine (zBD h0 h1).trans ?_
  rw [zoc l j hj _ (zDX _)]
 ·simp only [zF, cond_false]
theorem zlX {l : List zb} (h : zL ze l ≤ big) : ZF l = some l := by
 refine Zg (fun l => zL ze l) (fun l => zL ze l ≤ big) (fun l => l) (fun S l hl hS => ?_) h
 unfold zbC
 have hlen := Zm qj l
 have hc : QW l = some l := zdD l 56 (by unfold big at hl; omega)
 simp only [za, hc, Option.bind_some]
 refine ziC l (fun i hi => ?_) ?_
 ·have hsz := ZA (f := ze) (List.getElem_mem hi)
  have hv2 := qM l[i]
  have hlp := Zm qW l[i].parts
  have hp : QJ l[i].parts = some l[i].parts := zdD l[i].parts 40 (by unfold big at hl; omega)
  have hmm : za5 l[i].combs = some l[i].combs := zdD l[i].combs 1 (by unfold big at hl; omega)
  simp only [decide_eq_true (show (i : Int) < (l.length : Int) by omega), cond_true, nn, Bool.and_self, ZT, List.getElem?_eq_getElem hi, Option.bind_some, Int.toNat_natCast, hp, hmm]
  rw [zx0 hi, ZT, ZT]
  refine (zAa rfl (by omega) (fun x hx => ?_) (fun x hx y hy => ?_)).trans ?_
  ·have hsz2 := ZA (f := zI) hx
   have hv3 := Z6 x
   have hls := Zm zaH x.simples
   omega
  ·have hsz2 := ZA (f := zI) hx
   have hv3 := Z6 x
   have hsz3 := ZA (f := zO) hy
   have hv4 := qI y
   exact hS _ (by omega) (by omega)
  ·rw [zw hi (by omega), zoc l i hi _ (zDY _)]
 ·simp only [zF, cond_false]
theorem zxv {R : Type} {l : List (List Str)} {k : List (List Str) → Option R} {b : Bool} (hb : b = true) (hl : l.length ≤ big) (h : ∀ n ∈ l, n.length ≤ big) : zN (fun (s18 : Int × List (List Str)) =>
      bif decide (s18.1 < (l.length : Int)) then
       need b <|
       need b <|
       need (decide (0 ≤ s18.1) && decide (s18.1 < (s18.2.length : Int))) <|
       za s18.2[s18.1.toNat]? fun y19 =>
       za (qD y19) fun y20 =>
       need (decide (0 ≤ s18.1) && decide (s18.1 < (s18.2.length : Int))) <|
       za s18.2[s18.1.toNat]? fun y21 =>
       some (LO.again (w64 (s18.1 + 1), List.take s18.1.toNat s18.2 ++ List.cons y20 (List.drop (s18.1.toNat + 1) s18.2)))
      else
       some (LO.out s18.2) : Int × List (List Str) → Option (LO (Int × List (List Str)) (List (List Str)) R)) (0, l) k = k l := by
 subst hb
 refine ziC l (fun i hi => ?_) ?_
 ·have h2 := h l[i] (List.getElem_mem hi)
  have hp : qD l[i] = some l[i] := zdD l[i] 16 (by unfold big at h2; omega)
  simp only [decide_eq_true (show (i : Int) < (l.length : Int) by omega), cond_true, nn, Bool.and_self, ZT, List.getElem?_eq_getElem hi, za, Option.bind_some, Int.toNat_natCast, hp, zw hi hl]
  rw [zoc l i hi _ rfl]
 ·simp only [zF, cond_false]
theorem zlY {l : List zu} (h : zL zh l ≤ big) : Qh l = some l := by
 refine Zg (fun l => zL zh l) (fun l => zL zh l ≤ big) (fun l => l) (fun S l hl hS => ?_) h
 unfold zgb
 have hlen := Zm zan l
 have hc : zbG l = some l := zdD l 208 (by unfold big at hl; omega)
 simp only [za, hc, Option.bind_some]
 refine ziC l (fun i hi => ?_) ?_
 ·have hsz := ZA (f := zh) (List.getElem_mem hi)
  have hv2 := zb8 l[i]
  have hn := zwV l[i].names
  have h1 : ZF l[i].selectors = some l[i].selectors := zlX (by omega)
  have h2 : zdz l[i].decls = some l[i].decls := zrS (by omega)
  have h3 : ZE l[i].cond = some l[i].cond := zlW (by omega)
  have h4 : S l[i].rules = some l[i].rules := hS _ (by omega) (by omega)
  have h5 : slices_Clone_string l[i].names = some l[i].names := zdD l[i].names 24 (by unfold big at hl; omega)
  have e1 : l.set i l[i] = l := set_self l i hi _ rfl
  simp only [decide_eq_true (show (i : Int) < (l.length : Int) by omega), cond_true, nn, Bool.and_self, ZT, List.getElem?_eq_getElem hi, Option.bind_some, Int.toNat_natCast, zX, h1, h2, h3, h4, zcQ, e1, List.getElem?_eq_getElem hi, h5]
  rw [zx0 hi, ZT]
  refine (zxv (l := l[i].names) (b := true) rfl (by omega) (fun n hm => by have := (hn.2 n hm).1; omega)).trans ?_
  rw [zw hi (by omega)]
  simp only [zcQ]
  rw [zoc l i hi _ rfl]
 ·simp only [zF, cond_false]
theorem zFi {a : List zf} (h : szL a ≤ big) : zad (a, a) = some true := by
 refine Zg (fun x : List zf × List zf => szL x.1) (fun x => szL x.1 ≤ big ∧ x.1 = x.2) (fun x => true) (fun S x hl hS => ?_) (show szL (a, a).1 ≤ big ∧ (a, a).1 = (a, a).2 from ⟨h, rfl⟩)
 obtain ⟨l, l'⟩ := x
 obtain ⟨hl, he⟩ := hl
 simp only at hl hS he
 subst he
 unfold zee
 have hlen := zcj l
 have hne : ((l.length : Int) != (l.length : Int)) = false := by simp
 simp only [hne, cond_false]
 refine zeK l.length () (fun i hi => ?_) ?_
 ·have hsz := zet (List.getElem_mem hi)
  have hv2 := zhe l[i]
  have hs1 : szL l[i].list ≤ big := by omega
  have hs2 : szL l[i].list < szL l := by omega
  have hSq : S (l[i].list, l[i].list) = some true := hS (l[i].list, l[i].list) ⟨hs1, rfl⟩ hs2
  simp [hi, zH hi, hSq, zw hi (by omega)]
 ·simp only [zF, cond_false]
theorem zDz {d : Zh} (h : zL zU d.value ≤ big) : QR (d, d) = some true := by
 unfold QR
 have := zhd d.value
 have e1 : (d.name == d.name) = true := beq_self_eq_true _
 have e2 : (d.important == d.important) = true := beq_self_eq_true _
 simp only [e1, e2, cond_true, zT, zFi (show szL d.value ≤ big by omega), za, Option.bind_some]
theorem zFj {l : List Zh} (h : zL Zc l ≤ big) : ze3 (l, l) = some true := by
 unfold ze3
 have hlen := Zm zaS l
 have hne : ((l.length : Int) != (l.length : Int)) = false := by simp
 simp only [hne, cond_false]
 refine zeK l.length () (fun i hi => ?_) ?_
 ·have hsz := ZA (f := Zc) (List.getElem_mem hi)
  have hv2 := QL l[i]
  have h1 : QR (l[i], l[i]) = some true := zDz (by omega)
  simp [hi, zH hi, h1, zw hi (by omega)]
 ·simp only [zF, cond_false]
theorem zE2 {c : zk} (h : zt (zq c) ≤ big) : qF (c, c) = some true := by
 refine Zg (fun x : zk × zk => zt (zq x.1)) (fun x => zt (zq x.1) ≤ big ∧ x.1 = x.2) (fun x => true) (fun S x hl hS => ?_) (show zt (zq (c, c).1) ≤ big ∧ (c, c).1 = (c, c).2 from ⟨h, rfl⟩)
 obtain ⟨c, c'⟩ := x
 obtain ⟨hl, he⟩ := hl
 simp only at hl hS he
 subst he
 unfold zei
 have hlen := qh c
 have hd := zhg c
 rw [QL] at hd
 have e1 : (c.kind != c.kind) = false := by simp
 have e2 : (c.name == c.name) = true := beq_self_eq_true _
 have e3 : (c.num != c.num) = false := by simp
 have e4 : ((c.list.length : Int) != (c.list.length : Int)) = false := by simp
 simp only [e1, e2, e3, e4, cond_false, Bool.not_true, Bool.not_false, zT, zDz (show zL zU c.decl.value ≤ big by omega), za, Option.bind_some]
 refine zeK c.list.length () (fun i hi => ?_) ?_
 ·have hsz := qf (List.getElem_mem hi)
  have hSq : S (c.list[i], c.list[i]) = some true := hS (c.list[i], c.list[i]) ⟨by show zt (zq c.list[i]) ≤ big; omega, rfl⟩ hsz
  simp [hi, zH hi, hSq, zw hi (by omega), zX]
 ·simp only [zF, cond_false]
theorem zFk {l : List zb} (h : zL ze l ≤ big) : Ze (l, l) = some true := by
 refine Zg (fun x : List zb × List zb => zL ze x.1) (fun x => zL ze x.1 ≤ big ∧ x.1 = x.2) (fun x => true) (fun S x hl hS => ?_) (show zL ze (l, l).1 ≤ big ∧ (l, l).1 = (l, l).2 from ⟨h, rfl⟩)
 obtain ⟨l, l'⟩ := x
 obtain ⟨hl, he⟩ := hl
 simp only at hl hS he
 subst he
 unfold zf6
 have hlen := Zm qj l
 have hne : ((l.length : Int) != (l.length : Int)) = false := by simp
 simp only [hne, cond_false]
 have hsimp : ∀ q : List zy, zL zO q < zL ze l → zae S (q, q) = some true := by
  intro q hq
  unfold zae
  have hq1 := Zm zaH q
  have hne : ((q.length : Int) != (q.length : Int)) = false := by simp
  simp only [hne, cond_false]
  refine zeK q.length () (fun i hi => ?_) ?_
  ·have hsz := ZA (f := zO) (List.getElem_mem hi)
   have hv2 := qI q[i]
   have h1 : S (q[i].list, q[i].list) = some true := hS (q[i].list, q[i].list) ⟨by show zL ze q[i].list ≤ big; omega, rfl⟩ (by show zL ze q[i].list < _; omega)
   simp only [decide_eq_true (show (i : Int) < (q.length : Int) by omega), cond_true, zH hi, za, Option.bind_some, zav, beq_self_eq_true, Bool.and_self, Bool.not_true, Bool.not_false, zT, h1, cond_false, zw hi (by omega)]
  ·simp only [zF, cond_false]
 refine zeK l.length () (fun i hi => ?_) ?_
 ·have hsz := ZA (f := ze) (List.getElem_mem hi)
  have hv2 := qM l[i]
  have hlp := Zm qW l[i].parts
  have h1 : zfG S (l[i], l[i]) = some true := by
   unfold zfG
   have e1 : (l[i].lead != l[i].lead) = false := by simp
   have e2 : ((l[i].parts.length : Int) != (l[i].parts.length : Int)) = false := by simp
   have e3 : (l[i].combs == l[i].combs) = true := beq_self_eq_true _
   simp only [e1, e2, e3, cond_false, Bool.not_true]
   refine zeK l[i].parts.length () (fun j hj => ?_) ?_
   ·have hsz2 := ZA (f := zI) (List.getElem_mem hj)
    have hv3 := Z6 l[i].parts[j]
    have h1 := hsimp l[i].parts[j].simples (by omega)
    simp [hj, zH hj, h1, zw hj (by omega), za]
   ·simp only [zF, cond_false]
  have eta : (⟨l[i].lead, l[i].parts, l[i].combs⟩ : zb) = l[i] := by cases l[i]; rfl
  simp [hi, zH hi, eta, h1, zw hi (by omega), za]
 ·simp only [zF, cond_false]
theorem zFl {l : List (List Str)} (hl : l.length ≤ big) (h : ∀ n ∈ l, n.length ≤ big) : zai (l, l) = some true := by
 unfold zai
 have hne : ((l.length : Int) != (l.length : Int)) = false := by simp
 simp only [hne, cond_false]
 refine zeK l.length () (fun i hi => ?_) ?_
 ·have h2 := h l[i] (List.getElem_mem hi)
  have hne : ((l[i].length : Int) != (l[i].length : Int)) = false := by simp
  simp only [decide_eq_true (show (i : Int) < (l.length : Int) by omega), cond_true, zH hi, za, Option.bind_some, hne, cond_false]
  refine (zeK l[i].length () (fun j hj => ?_) ?_).trans ?_
  ·simp [hj, zH hj, zw hj h2]
  ·simp only [zF, cond_false]
  ·rw [zw hi hl]
 ·simp only [zF, cond_false]
theorem zDy {l : List zu} (h : zL zh l ≤ big) : ZQ (l, l) = some true := by
 refine Zg (fun x : List zu × List zu => zL zh x.1) (fun x => zL zh x.1 ≤ big ∧ x.1 = x.2) (fun x => true) (fun S x hl hS => ?_) (show zL zh (l, l).1 ≤ big ∧ (l, l).1 = (l, l).2 from ⟨h, rfl⟩)
 obtain ⟨l, l'⟩ := x
 obtain ⟨hl, he⟩ := hl
 simp only at hl hS he
 subst he
 unfold zf9
 have hlen := Zm zan l
 have hne : ((l.length : Int) != (l.length : Int)) = false := by simp
 simp only [hne, cond_false]
 refine zeK l.length () (fun i hi => ?_) ?_
 ·have hsz := ZA (f := zh) (List.getElem_mem hi)
  have hv2 := zb8 l[i]
  have hn := zwV l[i].names
  have h1 : zfJ S (l[i], l[i]) = some true := by
   unfold zfJ
   have e1 : (l[i].kind == l[i].kind) = true := beq_self_eq_true _
   have g1 : Ze (l[i].selectors, l[i].selectors) = some true := zFk (by omega)
   have g2 : ze3 (l[i].decls, l[i].decls) = some true := zFj (by omega)
   have g3 : qF (l[i].cond, l[i].cond) = some true := zE2 (by omega)
   have g4 : zai (l[i].names, l[i].names) = some true := zFl (by omega) (fun n hm => by have := (hn.2 n hm).1; omega)
   have g5 : S (l[i].rules, l[i].rules) = some true := hS (l[i].rules, l[i].rules) ⟨by show zL zh l[i].rules ≤ big; omega, rfl⟩ (by show zL zh l[i].rules < _; omega)
   simp only [e1, zT, g1, za, Option.bind_some, cond_true, g2, zX, g3, g4, g5]
  simp only [decide_eq_true (show (i : Int) < (l.length : Int) by omega), cond_true, zH hi, za, Option.bind_some, zX, zcQ, h1, Bool.not_true, cond_false, zw hi (by omega)]
 ·simp only [zF, cond_false]
end Go.Lv.VT

namespace Go.Lv.VT
theorem zyJ {α : Type} (f : α → List PV) : ∀ (a b : List α), zL f (a ++ b) = zL f a + zL f b
 | [], b => by rw [zqY, List.nil_append, Nat.zero_add]
 | v :: a, b => by rw [List.cons_append, qX, qX, zyJ f a b]; omega
theorem zlA : ∀ (a b : List zu), ZM (a ++ b) = ZM a + ZM b
 | [], b => by rw [List.nil_append, ZM, Nat.zero_add]
 | v :: a, b => by rw [List.cons_append, ZM, ZM, zlA a b]; omega
theorem zyt {α : Type} (f : α → Nat) : ∀ (a b : List α), mx f (a ++ b) = max (mx f a) (mx f b)
 | [], b => by rw [List.nil_append, mx, Nat.zero_max]
 | v :: a, b => by rw [List.cons_append, mx, mx, zyt f a b]; omega
def putS (l : List zu) (i : Nat) (r : zu) : List zu := l.take i ++ [r] ++ l.drop i
theorem zDv (l : List zu) (i : Nat) (r : zu) : zL zh (putS l i r) = zL zh l + zt (zh r) := by
 have := zyJ zh (l.take i) (l.drop i)
 rw [List.take_append_drop] at this
 rw [putS, zyJ, zyJ, qX, zqY]
 omega
theorem zCV (l : List zu) (i : Nat) (r : zu) : ZM (putS l i r) = ZM l + numR r := by
 have := zlA (l.take i) (l.drop i)
 rw [List.take_append_drop] at this
 rw [putS, zlA, zlA]
 have e : ZM [r] = numR r := by rw [ZM, ZM, Nat.add_zero]
 omega
theorem zEo {l : List zu} {i : Nat} {r : zu} (h1 : zbK l = true) (h2 : zbK [r] = true) : zbK (putS l i r) = decide (ZM l + numR r ≤ 64) := by
 unfold zbK at h1 h2 ⊢
 rw [zCV]
 simp only [Bool.and_eq_true, decide_eq_true_eq] at h1 h2
 obtain ⟨_, a1, a2⟩ := h1
 obtain ⟨_, b1, b2⟩ := h2
 have e1 : (putS l i r).all ZU = true := by
  have := a1
  rw [← List.take_append_drop i l, List.all_append, Bool.and_eq_true] at this
  rw [putS, List.all_append, List.all_append, this.1, this.2, b1]
  rfl
 have e2 : mx za6 (putS l i r) ≤ 16 := by
  have := zyt za6 (l.take i) (l.drop i)
  rw [List.take_append_drop] at this
  rw [putS, zyt, zyt]
  omega
 rw [e1, decide_eq_true e2]
 cases decide (ZM l + numR r ≤ 64) <;> rfl
theorem zCX {α : Type} (l : List α) (i : Nat) (hi : i ≤ l.length) (z r : α) : (l.take i ++ (List.replicate (l.length + 1) z).drop (l.take i).length).set i r = l.take i ++ r :: List.replicate (l.length - i) z := by
 have hl : (l.take i).length = i := by simp; omega
 rw [hl, List.drop_replicate, show l.length + 1 - i = (l.length - i) + 1 by omega, List.replicate_succ, List.set_append_right _ _ (by omega), hl, Nat.sub_self, List.set_cons_zero]
theorem zCW {α : Type} (l : List α) (i : Nat) (hi : i ≤ l.length) (z r : α) : (l.take i ++ r :: List.replicate (l.length - i) z).take (i + 1) ++ l.drop i ++ (l.take i ++ r :: List.replicate (l.length - i) z).drop (i + 1 + (l.drop i).length) = l.take i ++ [r] ++ l.drop i := by
 have hl : (l.take i).length = i := by simp; omega
 have e1 : (l.take i ++ r :: List.replicate (l.length - i) z).take (i + 1) = l.take i ++ [r] := by
  rw [List.take_append, List.take_of_length_le (by omega), hl, show i + 1 - i = 1 by omega]
  rfl
 have e2 : (l.take i ++ r :: List.replicate (l.length - i) z).drop (i + 1 + (l.drop i).length) = [] := List.drop_eq_nil_iff.2 (by simp; omega)
 rw [e1, e2, List.append_nil]
theorem zEp {α : Type} (l : List α) (i : Nat) (hi : i ≤ l.length) (z r : α) : (l.take i ++ r :: List.replicate (l.length - i) z).length = l.length + 1 := by
 simp; omega
theorem zo1 {l : List zu} (h : zL zh l ≤ big) : zaF ⟨l⟩ = some (bif zbK l then 0 else 8) := by
 unfold zaF
 simp only [zkh h, za, Option.bind_some]
theorem zyS {r : zu} (hb : zL zh [r] ≤ big) : zbs r = some (bif zbK [r] then 0 else 8) := by
 unfold zbs
 simp only [zX, zcQ, zkh hb, za, Option.bind_some]
theorem zyT {r : zu} (hb : zL zh [r] ≤ big) : zbq r = some (bif zbK [r] then 0 else 8) := by
 unfold zbq
 simp only [zX, zcQ, zgA (s := ⟨[r]⟩) hb, za, Option.bind_some]
def zzt (l : List zu) (r : zu) (a : Int) : Zo × Int :=
 bif zbK l && zbK [r] then
  bif decide (0 ≤ a) && decide (a ≤ (l.length : Int)) then
   bif decide (ZM l + numR r ≤ 64) then (⟨putS l a.toNat r⟩, 0) else (⟨[]⟩, 18)
  else (⟨[]⟩, 2)
 else (⟨[]⟩, 8)
def zzr (l : List zu) (a : Int) : Zo × Int :=
 bif zbK l then
  bif decide (0 ≤ a) && decide (a < (l.length : Int)) then (⟨l.take a.toNat ++ l.drop (a.toNat + 1)⟩, 0)
  else (⟨[]⟩, 2)
 else (⟨[]⟩, 8)
theorem zDu {a n : Int} (h : ¬(0 ≤ a ∧ a ≤ n)) : (bif decide (a < 0) then true else decide (a > n)) = true := by
 by_cases h0 : a < 0
 ·rw [decide_eq_true h0]; rfl
 ·rw [decide_eq_false h0, cond_false]; exact decide_eq_true (by omega)
theorem zAV {i n : Nat} (h : i ≤ n) : (bif decide ((i : Int) < 0) then true else decide ((i : Int) > (n : Int))) = false := by
 rw [decide_eq_false (by omega), cond_false]; exact decide_eq_false (by omega)
theorem zBc {a n : Int} (h : ¬(0 ≤ a ∧ a < n)) : (bif decide (a < 0) then true else decide (a ≥ n)) = true := by
 by_cases h0 : a < 0
 ·rw [decide_eq_true h0]; rfl
 ·rw [decide_eq_false h0, cond_false]; exact decide_eq_true (by omega)
theorem zyv {i n : Nat} (h : i < n) : (bif decide ((i : Int) < 0) then true else decide ((i : Int) ≥ (n : Int))) = false := by
 rw [decide_eq_false (by omega), cond_false]; exact decide_eq_false (by omega)
theorem zlz (b : Bool) : ((bif b then (0 : Int) else 8) != 0) = !b := by cases b <;> rfl
theorem zqt {l : List zu} {r : zu} {a : Int} (h : zL zh l + zt (zh r) ≤ big) : zem (⟨l⟩, r, a) = some (zzt l r a) := by
 have hb : zL zh [r] ≤ big := by rw [qX, zqY]; omega
 have hlen := Zm zan l
 unfold zem
 simp only [zX, zcQ, zo1 (show zL zh l ≤ big by omega), zyS hb, za, Option.bind_some, zlz, zD]
 unfold zzt
 cases h1 : zbK l with
 | false => rfl
 | true =>
  cases h2 : zbK [r] with
  | false => rfl
  | true =>
   simp only [Bool.not_true, Bool.not_false, cond_true, cond_false, Bool.and_self]
   by_cases hr : 0 ≤ a ∧ a ≤ (l.length : Int)
   ·obtain ⟨i, rfl⟩ := Int.eq_ofNat_of_zero_le hr.1
    have hi : i ≤ l.length := by omega
    have e0 : w64 ((l.length : Int) + 1) = ((l.length + 1 : Nat) : Int) := by rw [w64, ZL (by omega) (by unfold big at h; omega)]; omega
    have e1 : w64 ((i : Int) + 1) = ((i + 1 : Nat) : Int) := by rw [w64, ZL (by omega) (by unfold big at h; omega)]; omega
    have hput := zDv l i r
    have hck : zaF ⟨l.take i ++ [r] ++ l.drop i⟩ = some (bif decide (ZM l + numR r ≤ 64) then 0 else 8) := by
     rw [← zEo (i := i) h1 h2]
     exact zo1 (l := putS l i r) (by omega)
    have htw : Qh (l.take i ++ [r] ++ l.drop i) = some (l.take i ++ [r] ++ l.drop i) := zlY (l := putS l i r) (by omega)
    have hl : (l.take i).length = i := by simp; omega
    have c1 : decide ((l.take i).length ≤ (List.replicate (l.length + 1) (⟨0, [], [], (⟨0, [], 0, (⟨[], [], false⟩ : Zh), []⟩ : zk), [], []⟩ : zu)).length) = true := decide_eq_true (by simp; omega)
    have c2 : decide (((l.length + 1 : Nat) : Int) ≤ ((l.length + 1 : Nat) : Int)) = true := decide_eq_true (Int.le_refl _)
    have c2b : decide (((l.length + 1 : Nat) : Int) * 208 ≤ 140737488355328) = true := decide_eq_true (by unfold big at h; omega)
    have c2c : decide (((l.length + 1 : Nat) : Int) ≤ 9223372036854775807) = true := decide_eq_true (by unfold big at h; omega)
    have c3 : decide ((i : Int) ≤ (l.length : Int)) = true := decide_eq_true (by omega)
    have c4 : decide ((i : Int) ≤ (i : Int)) = true := decide_eq_true (by omega)
    have c5 : decide ((i : Int) = (i : Int)) = true := decide_eq_true rfl
    have hz : (l.take i ++ (List.replicate (l.length + 1) (⟨0, [], [], (⟨0, [], 0, (⟨[], [], false⟩ : Zh), []⟩ : zk), [], []⟩ : zu)).drop (l.take i).length).length = l.length + 1 := by simp; omega
    have c6 : decide ((i : Int) < ((l.length + 1 : Nat) : Int)) = true := decide_eq_true (by omega)
    have c7 : decide (((i + 1 : Nat) : Int) ≤ ((l.length + 1 : Nat) : Int)) = true := decide_eq_true (by omega)
    have c8 : decide ((l.drop i).length ≤ l.length + 1 - (i + 1)) = true := decide_eq_true (by simp)
    have c9 : decide (i + 1 + (l.length + 1 - (i + 1)) ≤ l.length + 1) = true := decide_eq_true (by omega)
    have hat : ∀ q : List zu, q.length = l.length + 1 → ∃ y, q[i]? = some y := fun q hq => ⟨q[i], List.getElem?_eq_getElem (by omega)⟩
    obtain ⟨y, hy⟩ := hat _ hz
    simp only [zAV hi, cond_false, e0, e1, Int.toNat_natCast, c1, c2, c2b, c2c, c3, c4, decide_true, nn, Bool.and_self, ZT, hz, c6, hy, Option.bind_some, zCX l i hi, zEp l i hi, c7, c8, c9, zCW l i hi, hck, htw, cond_true, putS]
    cases decide (ZM l + numR r ≤ 64) <;> rfl
   ·have hb2 : (decide (0 ≤ a) && decide (a ≤ (l.length : Int))) = false := by
     cases h3 : (decide (0 ≤ a) && decide (a ≤ (l.length : Int))) with
     | false => rfl
     | true => rw [Bool.and_eq_true, decide_eq_true_eq, decide_eq_true_eq] at h3; exact absurd h3 hr
    rw [zDu hr, hb2]
    rfl
theorem zEC {n : Nat} (h : n ≤ 2 * big) : w64 (n : Int) = (n : Int) := by rw [w64, ZL (by omega) (by unfold big at h; omega)]
theorem zqn {l : List zu} {r : zu} {a : Int} (h : zL zh l + zt (zh r) ≤ big) : zek (⟨l⟩, r, a) = some (zzt l r a) := by
 have hb : zL zh [r] ≤ big := by rw [qX, zqY]; omega
 have hlen := Zm zan l
 have hn1 := zop l
 have hn2 := zop [r]
 have er : ZM [r] = numR r := by rw [ZM, ZM, Nat.add_zero]
 unfold zek
 simp only [zX, zcQ, zgA (s := ⟨l⟩) (show zL zh l ≤ big by omega), zyT hb, za, Option.bind_some, zlz, zD]
 unfold zzt
 cases h1 : zbK l with
 | false => rfl
 | true =>
  cases h2 : zbK [r] with
  | false => rfl
  | true =>
   simp only [Bool.not_true, Bool.not_false, cond_true, cond_false, Bool.and_self]
   by_cases hr : 0 ≤ a ∧ a ≤ (l.length : Int)
   ·obtain ⟨i, rfl⟩ := Int.eq_ofNat_of_zero_le hr.1
    have hi : i ≤ l.length := by omega
    have e0 : w64 ((ZM l : Int) + (ZM [r] : Int)) = ((ZM l + numR r : Nat) : Int) := by
     rw [show (ZM l : Int) + (ZM [r] : Int) = ((ZM l + ZM [r] : Nat) : Int) by omega, zEC (by omega), er]
    have e1 : decide (((ZM l + numR r : Nat) : Int) > 64) = !decide (ZM l + numR r ≤ 64) := Q6 _ 64
    have c3 : decide ((i : Int) ≤ (l.length : Int)) = true := decide_eq_true (by omega)
    have a1 : qw 0 (l.take i).length 208 = true := zdA (by simp; unfold big at h; omega)
    have a2 : qw (l.take i).length 1 208 = true := zdA (by simp; unfold big at h; omega)
    have a3 : qw (l.take i ++ [r]).length (l.drop i).length 208 = true := zdA (by simp; unfold big at h; omega)
    simp only [zAV hi, cond_false, zc3 (show zL zh l ≤ big by omega), zc3 hb, Option.bind_some, e0, e1, Int.toNat_natCast, c3, nn, Bool.and_self, ZT, a1, a2, a3, cond_true, putS]
    cases decide (ZM l + numR r ≤ 64) <;> rfl
   ·have hb2 : (decide (0 ≤ a) && decide (a ≤ (l.length : Int))) = false := by
     cases h3 : (decide (0 ≤ a) && decide (a ≤ (l.length : Int))) with
     | false => rfl
     | true => rw [Bool.and_eq_true, decide_eq_true_eq, decide_eq_true_eq] at h3; exact absurd h3 hr
    rw [zDu hr, hb2]
    rfl
theorem zEI (l : List zu) (i : Nat) : zL zh (l.take i ++ l.drop (i + 1)) ≤ zL zh l := by
 refine zE9 ?_
 have h2 : (l.take i ++ l.drop (i + 1)).Sublist (l.take i ++ l.drop i) := (List.append_sublist_append_left _).2 (List.drop_sublist_drop_left l (Nat.le_succ i))
 rw [List.take_append_drop] at h2
 exact h2
theorem zqs {l : List zu} {a : Int} (h : zL zh l ≤ big) : zel (⟨l⟩, a) = some (zzr l a) := by
 have hlen := Zm zan l
 unfold zel
 simp only [zo1 h, za, Option.bind_some, zlz]
 unfold zzr
 cases h1 : zbK l with
 | false => rfl
 | true =>
  simp only [Bool.not_true, cond_true, cond_false]
  by_cases hr : 0 ≤ a ∧ a < (l.length : Int)
  ·obtain ⟨i, rfl⟩ := Int.eq_ofNat_of_zero_le hr.1
   have hi : i < l.length := by omega
   have e1 : w64 ((i : Int) + 1) = ((i + 1 : Nat) : Int) := by rw [w64, ZL (by omega) (by unfold big at h; omega)]; omega
   have htw := zlY (l := l.take i ++ l.drop (i + 1)) (Nat.le_trans (zEI l i) h)
   have c3 : decide ((i : Int) ≤ (l.length : Int)) = true := decide_eq_true (by omega)
   have c4 : decide ((i : Int) ≤ (i : Int)) = true := decide_eq_true (by omega)
   have c5 : decide ((i : Int) = (i : Int)) = true := decide_eq_true rfl
   have c6 : decide ((i : Int) < (l.length : Int)) = true := decide_eq_true (by omega)
   have c7 : decide (((i + 1 : Nat) : Int) ≤ (l.length : Int)) = true := decide_eq_true (by omega)
   have a1 : qw (l.take i).length (l.drop (i + 1)).length 208 = true := zdA (by simp; unfold big at h; omega)
   simp only [zyv hi, cond_false, e1, Int.toNat_natCast, c3, c4, decide_true, c6, c7, nn, Bool.and_self, ZT, a1, htw, Option.bind_some, cond_true]
  ·have hb2 : (decide (0 ≤ a) && decide (a < (l.length : Int))) = false := by
    cases h3 : (decide (0 ≤ a) && decide (a < (l.length : Int))) with
    | false => rfl
    | true => rw [Bool.and_eq_true, decide_eq_true_eq, decide_eq_true_eq] at h3; exact absurd h3 hr
   rw [zBc hr, hb2]
   rfl
theorem zqm {l : List zu} {a : Int} (h : zL zh l ≤ big) : zej (⟨l⟩, a) = some (zzr l a) := by
 have hlen := Zm zan l
 unfold zej
 simp only [zgA (s := ⟨l⟩) h, za, Option.bind_some, zlz]
 unfold zzr
 cases h1 : zbK l with
 | false => rfl
 | true =>
  simp only [Bool.not_true, cond_true, cond_false]
  by_cases hr : 0 ≤ a ∧ a < (l.length : Int)
  ·obtain ⟨i, rfl⟩ := Int.eq_ofNat_of_zero_le hr.1
   have hi : i < l.length := by omega
   have e1 : w64 ((i : Int) + 1) = ((i + 1 : Nat) : Int) := by rw [w64, ZL (by omega) (by unfold big at h; omega)]; omega
   have c3 : decide ((i : Int) ≤ (l.length : Int)) = true := decide_eq_true (by omega)
   have c6 : decide ((i : Int) < (l.length : Int)) = true := decide_eq_true (by omega)
   have c7 : decide (((i + 1 : Nat) : Int) ≤ (l.length : Int)) = true := decide_eq_true (by omega)
   have a0 : qw 0 (l.take i).length 208 = true := zdA (by simp; unfold big at h; omega)
   have a1 : qw (l.take i).length (l.drop (i + 1)).length 208 = true := zdA (by simp; unfold big at h; omega)
   simp only [zyv hi, cond_false, e1, Int.toNat_natCast, c3, c6, c7, nn, Bool.and_self, ZT, a0, a1, cond_true]
  ·have hb2 : (decide (0 ≤ a) && decide (a < (l.length : Int))) = false := by
    cases h3 : (decide (0 ≤ a) && decide (a < (l.length : Int))) with
    | false => rfl
    | true => rw [Bool.and_eq_true, decide_eq_true_eq, decide_eq_true_eq] at h3; exact absurd h3 hr
   rw [zBc hr, hb2]
   rfl
theorem zu0 {b : Bool} {x y : Zo × Int} {n : Nat} (h1 : zL zh x.1.rules ≤ n) (h2 : zL zh y.1.rules ≤ n) : zL zh (bif b then x else y).1.rules ≤ n := by cases b <;> assumption
theorem zEr {l : List zu} {r : zu} {a : Int} (h : zL zh l + zt (zh r) ≤ big) : zL zh (zzt l r a).1.rules ≤ big := by
 unfold zzt
 have h0 : zL zh ([] : List zu) ≤ big := Nat.zero_le _
 exact zu0 (zu0 (zu0 (by show zL zh (putS l a.toNat r) ≤ big; rw [zDv]; exact h) h0) h0) h0
theorem zEq {l : List zu} {a : Int} (h : zL zh l ≤ big) : zL zh (zzr l a).1.rules ≤ big := by
 unfold zzr
 have h0 : zL zh ([] : List zu) ≤ big := Nat.zero_le _
 exact zu0 (zu0 (Nat.le_trans (zEI l a.toNat) h) h0) h0
theorem zrb {l : List zu} {r : zu} {a : Int} (h : zL zh l + zt (zh r) ≤ big) : zb1 (⟨l⟩, r, a) = some true := by
 have hb : zL zh [r] ≤ big := by rw [qX, zqY]; omega
 have hl : zL zh l ≤ big := by omega
 obtain ⟨g1, hg1⟩ := zkf hb
 obtain ⟨g2, hg2⟩ := zkf hl
 unfold zb1
 simp only [zX, zcQ, hg1, hg2, za, Option.bind_some, zD]
 cases hg : (bif g1 then true else (bif !g1 then g2 else default)) with
 | true => rfl
 | false =>
  simp only [cond_false, zqt h, zqn h, zqs hl, zqm hl, Option.bind_some, zDy (zEr h), zDy (zEq hl), beq_self_eq_true, cond_true, zT]
end Go.Lv.VT
