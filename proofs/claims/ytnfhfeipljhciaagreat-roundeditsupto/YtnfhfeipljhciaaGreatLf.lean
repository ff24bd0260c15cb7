/- The primitives of the plain texts of functions, and their laws. -/
import Derived.Test.YtnfhfeipljhciaaGreatLc
import Derived.IntWalk
import Derived.Test.YtnfhfeipljhciaaGreatLe
import Derived.Lib.Strings
import Derived.Lib.Bytealg
import GoSem.ClaimChange
import Derived.Below
import Derived.ChangeSame
import Derived.Carry
import Derived.ProofKit
import Derived.OpenShut
namespace Go.Lv
abbrev Str := List UInt8
abbrev w8 (n : Int) : Int := IntKind.i8.wrap n
abbrev w64 (n : Int) : Int := IntKind.i64.wrap n
abbrev wu8 (n : Int) : Int := IntKind.u8.wrap n
def ibOr (k : IntKind) (x y : Int) : Int := k.wrap (BitVec.ofInt k.bits x ||| BitVec.ofInt k.bits y).toNat
def zbM (n : Int) : Option UInt8 := cond (decide (0 ≤ n) && decide (n ≤ 255)) (some (UInt8.ofNat n.toNat)) none
theorem zzT {n : Int} {b : UInt8} (h : zbM n = some b) : n = ((b.toNat : Nat) : Int) := by
 unfold zbM at h
 cases hc : (decide (0 ≤ n) && decide (n ≤ 255)) with
 | false => rw [hc] at h; cases h
 | true =>
  rw [hc] at h
  simp only [Bool.and_eq_true, decide_eq_true_eq] at hc
  injection h with h
  subst h
  rw [UInt8.toNat_ofNat']
  omega
@[simp] theorem zB8 (b : UInt8) : zbM ((b.toNat : Nat) : Int) = some b := by
 unfold zbM
 have := UInt8.toNat_lt b
 have h : (decide ((0 : Int) ≤ ((b.toNat : Nat) : Int)) && decide (((b.toNat : Nat) : Int) ≤ 255)) = true := by
  simp only [Bool.and_eq_true, decide_eq_true_eq]; omega
 rw [h]
 simp
abbrev za {α β : Type} (x : Option α) (f : α → Option β) : Option β := x.bind f
noncomputable def zN {S X R : Type} (step : S → Option (LO S X R)) (s : S) (k : X → Option R) : Option R :=
 (zmC step s).bind fun
 | .out x => k x
 | .ret r => some r
def zZ {X R : Type} (m : Option (LX X R)) (k : X → Option R) : Option R :=
 m.bind fun
 | .out x => k x
 | .ret r => some r
def zjm {X Y : Type} (B : (X → Option Y) → X → Option Y) : Nat → X → Option Y
 | 0, _ => none
 | n + 1, x => B (zjm B n) x
open Classical in
noncomputable def recE {X Y : Type} (B : (X → Option Y) → X → Option Y) (x : X) : Option Y :=
 if h : ∃ y, ∃ N, ∀ n, N ≤ n → zjm B n x = some y then some h.choose else none
theorem zxE {X Y : Type} {B : (X → Option Y) → X → Option Y} {x : X} {y : Y} {N : Nat} (h : ∀ n, N ≤ n → zjm B n x = some y) : recE B x = some y := by
 have hx : ∃ y, ∃ N, ∀ n, N ≤ n → zjm B n x = some y := ⟨y, N, h⟩
 unfold recE
 rw [dif_pos hx]
 obtain ⟨M, hM⟩ := hx.choose_spec
 have h1 := hM (max N M) (Nat.le_max_right ..)
 rw [h _ (Nat.le_max_left ..)] at h1
 exact h1.symm
theorem Zg {X Y : Type} {B : (X → Option Y) → X → Option Y} (μ : X → Nat) (ok : X → Prop) (f : X → Y)
  (hB : ∀ (S : X → Option Y) (x : X), ok x → (∀ z, ok z → μ z < μ x → S z = some (f z)) → B S x = some (f x)) {x : X} (hx : ok x) : recE B x = some (f x) := by
 have key : ∀ (m : Nat) (n : Nat) (x : X), μ x < m → m ≤ n → ok x → zjm B n x = some (f x) := by
  intro m
  induction m with
  | zero => intro n x h; omega
  | succ m ih =>
   intro n x hm hn hok
   cases n with
   | zero => omega
   | succ n => exact hB _ x hok fun z hz hlt => ih n z (by omega) (by omega) hz
 exact zxE (N := μ x + 1) fun n hn => key (μ x + 1) n x (by omega) hn hx
theorem zBj {X Y : Type} {B : (X → Option Y) → X → Option Y} {x : X} {y : Y} (h : recE B x = some y) : ∃ n, zjm B n x = some y := by
 unfold recE at h
 split at h
 ·rename_i hx
  injection h with h
  obtain ⟨N, hN⟩ := hx.choose_spec
  exact ⟨N, by rw [hN N (Nat.le_refl _), h]⟩
 ·cases h
theorem zmx {S X R : Type} {step : S → Option (LO S X R)} : ∀ {n m : Nat} {s : S} {x : LX X R}, Z8 step n s = some x → n ≤ m → Z8 step m s = some x
 | 0, _, _, _, h, _ => by cases h
 | n + 1, 0, _, _, _, hm => by omega
 | n + 1, m + 1, s, x, h, hm => by
  simp only [Z8] at h ⊢
  split at h
  ·cases h
  ·exact zmx h (by omega)
  ·exact h
  ·exact h
theorem zbv {S X R : Type} {step : S → Option (LO S X R)} {s : S} {x : LX X R} {n : Nat} (h : Z8 step n s = some x) : zmC step s = some x := by
 have hx : ∃ n x, Z8 step n s = some x := ⟨n, x, h⟩
 unfold zmC
 rw [dif_pos hx]
 have h1 := hx.choose_spec.choose_spec
 have h2 := zmx h (Nat.le_max_left n hx.choose)
 have h3 := zmx h1 (Nat.le_max_right n hx.choose)
 rw [h2] at h3
 exact h3.symm
theorem zvU {S X R : Type} {step : S → Option (LO S X R)} (Inv : S → Prop) (μ : S → Nat) (r : LX X R)
  (h : ∀ s, Inv s → (∃ s', step s = some (.again s') ∧ Inv s' ∧ μ s' < μ s) ∨ (∃ x, step s = some (.out x) ∧ r = .out x) ∨ (∃ y, step s = some (.ret y) ∧ r = .ret y)) {s : S} (hs : Inv s) : zmC step s = some r := by
 have key : ∀ (m : Nat) (s : S), μ s < m → Inv s → Z8 step m s = some r := by
  intro m
  induction m with
  | zero => intro s h; omega
  | succ m ih =>
   intro s hm hs
   simp only [Z8]
   rcases h s hs with ⟨s', h1, h2, h3⟩ | ⟨x, h1, h2⟩ | ⟨y, h1, h2⟩
   ·rw [h1]; exact ih s' (by omega) h2
   ·rw [h1, h2]
   ·rw [h1, h2]
 exact zbv (key (μ s + 1) s (by omega) hs)
theorem zxs {S X R : Type} {step : S → Option (LO S X R)} {s s' : S} {r : LX X R} (h : step s = some (.again s')) (h' : ∃ n, Z8 step n s' = some r) : ∃ n, Z8 step n s = some r := by
 obtain ⟨n, hn⟩ := h'
 exact ⟨n + 1, by simp only [Z8, h]; exact hn⟩
theorem zAL {S X R : Type} {step : S → Option (LO S X R)} {s : S} {k : X → Option R} {x : X} (h : zmC step s = some (.out x)) : zN step s k = k x := by
 unfold zN; rw [h]; rfl
@[simp] theorem zJ {X R : Type} (x : X) (k : X → Option R) : zZ (some (.out x)) k = k x := rfl
@[simp] theorem zvN {X R : Type} (r : R) (k : X → Option R) : zZ (some (.ret r)) k = some r := rfl
@[simp] theorem ZT {R : Type} (x : Option R) : need true x = x := rfl
@[simp] theorem zT {α : Type} (x : Option α) (d : α) : zz true x d = x := rfl
@[simp] theorem ZY {α : Type} (x : Option α) (d : α) : zz false x d = some d := rfl
theorem zpO {R : Type} {b : Bool} (h : b = true) (x : Option R) : need b x = x := by rw [h]; rfl
def LX.go {X R : Type} (r : LX X R) (k : X → Option R) : Option R := match r with | .out x => k x | .ret y => some y
@[simp] theorem zDp {X R : Type} (x : X) (k : X → Option R) : (LX.out x : LX X R).go k = k x := rfl
@[simp] theorem go_ret {X R : Type} (y : R) (k : X → Option R) : (LX.ret y : LX X R).go k = some y := rfl
theorem zb3 {S X R : Type} {step : S → Option (LO S X R)} {s : S} {k : X → Option R} {r : LX X R} (h : zmC step s = some r) : zN step s k = r.go k := by
 unfold zN; rw [h]; cases r <;> rfl
def zmT {α A X R : Type} (g : α → A → Option (LO A X R)) (fin : A → Option (LX X R)) : List α → A → Option (LX X R)
 | [], a => fin a
 | v :: l, a => match g v a with
  | none => none
  | some (.again a') => zmT g fin l a'
  | some (.out x) => some (.out x)
  | some (.ret r) => some (.ret r)
theorem zH {α : Type} {l : List α} {i : Nat} (h : i < l.length) : geti l (i : Int) = some l[i] := by
 unfold geti
 have h0 : decide ((0 : Int) ≤ (i : Int)) = true := by simp
 rw [h0]
 simp [h]
theorem zzh {α A X R S : Type} {step : S → Option (LO S X R)} (l : List α) (st : Nat → A → S) (g : α → A → Option (LO A X R)) (fin : A → Option (LX X R)) (Inv : Nat → A → Prop)
  (hg : ∀ (i : Nat) (a : A) (h : i < l.length), Inv i a → step (st i a) = ((g l[i] a).map fun
   | .again a' => .again (st (i + 1) a')
   | .out x => .out x
   | .ret r => .ret r) ∧ ∀ a', g l[i] a = some (.again a') → Inv (i + 1) a')
  (hf : ∀ a, Inv l.length a → step (st l.length a) = (fin a).map fun
   | .out x => .out x
   | .ret r => .ret r) {a : A} {r : LX X R} (h0 : Inv 0 a) (h : zmT g fin l a = some r) : zmC step (st 0 a) = some r := by
 have key : ∀ (k : Nat) (i : Nat) (a : A), i + k = l.length → Inv i a → zmT g fin (l.drop i) a = some r → ∃ n, Z8 step n (st i a) = some r := by
  intro k
  induction k with
  | zero =>
   intro i a hi hI ho
   have hi : i = l.length := by omega
   subst hi
   rw [List.drop_length] at ho
   refine ⟨1, ?_⟩
   simp only [Z8, hf a hI]
   simp only [zmT] at ho
   rw [ho]
   cases r <;> rfl
  | succ k ih =>
   intro i a hi hI ho
   have hlt : i < l.length := by omega
   rw [List.drop_eq_getElem_cons hlt] at ho
   simp only [zmT] at ho
   obtain ⟨hs, hI'⟩ := hg i a hlt hI
   cases hgv : g l[i] a with
   | none => rw [hgv] at ho; cases ho
   | some o =>
    rw [hgv] at ho hs
    cases o with
    | again a' => exact zxs hs (ih (i + 1) a' (by omega) (hI' a' hgv) ho)
    | out x => cases ho; exact ⟨1, by simp only [Z8]; rw [hs]; rfl⟩
    | ret y => cases ho; exact ⟨1, by simp only [Z8]; rw [hs]; rfl⟩
 obtain ⟨n, hn⟩ := key l.length 0 a (by omega) h0 (by simpa using h)
 exact zbv hn
theorem zls {α A X R S : Type} {step : S → Option (LO S X R)} {k : X → Option R} (l : List α) (st : Nat → A → S) (g : α → A → Option (LO A X R)) (fin : A → Option (LX X R)) (Inv : Nat → A → Prop) {s0 : S} {a : A} (h0 : s0 = st 0 a) (hi : Inv 0 a)
  (hg : ∀ (i : Nat) (a : A) (h : i < l.length), Inv i a → step (st i a) = ((g l[i] a).map fun
   | .again a' => .again (st (i + 1) a')
   | .out x => .out x
   | .ret r => .ret r) ∧ ∀ a', g l[i] a = some (.again a') → Inv (i + 1) a')
  (hf : ∀ a, Inv l.length a → step (st l.length a) = (fin a).map fun
   | .out x => .out x
   | .ret r => .ret r) {r : LX X R} (h : zmT g fin l a = some r) : zN step s0 k = r.go k := by
 subst h0
 have := zzh l st g fin Inv hg hf hi h
 unfold zN
 rw [this]
 cases r <;> rfl
theorem zon {α A X R S : Type} {step : S → Option (LO S X R)} {k : X → Option R} (l : List α) (st : Nat → A → S) (g : α → A → Option (LO A X R)) (fin : A → Option (LX X R)) {s0 : S} {a : A} (h0 : s0 = st 0 a)
  (hg : ∀ (i : Nat) (a : A) (h : i < l.length), step (st i a) = (g l[i] a).map fun
   | .again a' => .again (st (i + 1) a')
   | .out x => .out x
   | .ret r => .ret r)
  (hf : ∀ a, step (st l.length a) = (fin a).map fun
   | .out x => .out x
   | .ret r => .ret r) {r : LX X R} (h : zmT g fin l a = some r) : zN step s0 k = r.go k :=
 zls l st g fin (fun _ _ => True) h0 trivial (fun i a h _ => ⟨hg i a h, fun _ _ => trivial⟩) (fun a _ => hf a) h
theorem zct {α A X R : Type} {g : α → A → Option (LO A X R)} {fin : A → Option (LX X R)} (f : A → α → A) (hg : ∀ v a, g v a = some (.again (f a v))) : ∀ (l : List α) (a : A), zmT g fin l a = fin (l.foldl f a)
 | [], a => rfl
 | v :: l, a => by simp only [zmT, hg, List.foldl_cons]; exact zct f hg l _
theorem ZL {n : Int} (h1 : -9223372036854775808 ≤ n) (h2 : n ≤ 9223372036854775807) : IntKind.i64.wrap n = n := IntWalk.i64_in n ⟨h1, h2⟩
theorem zdA {n m b : Nat} (h : (n + m) * b ≤ 140737488355328) : qw n m b = true := decide_eq_true h
end Go.Lv

namespace Go.Lv
def ztp (x : Str × Int) : Option Int := some (Lib.indexByte x.1 x.2.toNat.toUInt8)
def zss (x : Str × Str) : Option Int := match x.2 with
 | [c] => some (Lib.indexByte x.1 c)
 | _ => none
section
variable {I : Ip} {P : Program}
theorem zAC {D : Nat → Prop} {w : World} {u v : Value} (h : RepP D w (.at u) v) : v = u := by cases h; rfl
theorem zmA {D : Nat → Prop} {w : World} {l : List UInt8} {v : Value} (h : RepP D w (.str l) v) : v = .string ⟨l.toArray⟩ := by cases h; rfl
theorem zz1 {f : FuncId} {fn : Go.Func} (hf : P.funcs[f]? = some fn) (hn : (fn.name == "runtime.NumGoroutine") = false) (hb : fn.body.isSome = true)
  (h : ∀ (s : ByteArray) (c : Int) (w : World), Calls P f #[.string s, .int .u8 c] w fun e w' => e = .returned (.int .i64 (Lib.indexByte s.data.toList c.toNat.toUInt8)) ∧ w' = w) :
  zg P (⟨f, ⟨[.str, .int .u8], []⟩, [], ⟨[.int .i64], []⟩, 0, ztp⟩ : Con I) where
 wf := rfl
 ok := fun x y hxy ρ nx _ _ _ => by
  obtain ⟨l, c⟩ := x
  cases hxy
  refine ⟨⟨fn, hf, hn, hb⟩, fun ι get w N vs hR _ _ ha _ => ?_⟩
  obtain ⟨hs, ha⟩ := ha
  obtain ⟨u0, hu0, _, hr0⟩ := ha 0 _ rfl
  obtain ⟨u1, hu1, _, hr1⟩ := ha 1 _ rfl
  have e0 : u0 = .string ⟨l.toArray⟩ := zmA hr0
  have e1 : u1 = .int .u8 c := zAC hr1
  subst e0; subst e1
  have hv : vs = #[.string ⟨l.toArray⟩, .int .u8 c] := by
   have hs : vs.size = 2 := hs
   apply Array.ext
   ·simp [hs]
   ·intro i hi hi'
    have : i = 0 ∨ i = 1 := by omega
    rcases this with rfl | rfl
    ·exact (Array.getElem?_eq_some_iff.1 hu0).2
    ·exact (Array.getElem?_eq_some_iff.1 hu1).2
  subst hv
  refine (h ⟨l.toArray⟩ c w).mono ?_
  rintro e w' ⟨rfl, rfl⟩
  refine ⟨_, rfl, QD hR ⟨rfl, ?_⟩⟩
  exact .at _ rfl
theorem zvk {f : FuncId} {fn : Go.Func} (hf : P.funcs[f]? = some fn) (hn : (fn.name == "runtime.NumGoroutine") = false) (hb : fn.body.isSome = true)
  (h : ∀ (s : ByteArray) (c : UInt8) (w : World), Calls P f #[.string s, .string ⟨#[c]⟩] w fun e w' => e = .returned (.int .i64 (Lib.indexByte s.data.toList c)) ∧ w' = w) :
  zg P (⟨f, ⟨[.str, .str], []⟩, [], ⟨[.int .i64], []⟩, 0, zss⟩ : Con I) where
 wf := rfl
 ok := fun x y hxy ρ nx _ _ _ => by
  obtain ⟨l, m⟩ := x
  have hxy : zss (l, m) = some y := hxy
  unfold zss at hxy
  split at hxy
  ·rename_i c hm
   cases hxy
   have hm : m = [c] := hm
   subst hm
   refine ⟨⟨fn, hf, hn, hb⟩, fun ι get w N vs hR _ _ ha _ => ?_⟩
   obtain ⟨hs, ha⟩ := ha
   obtain ⟨u0, hu0, _, hr0⟩ := ha 0 _ rfl
   obtain ⟨u1, hu1, _, hr1⟩ := ha 1 _ rfl
   have e0 : u0 = .string ⟨l.toArray⟩ := zmA hr0
   have e1 : u1 = .string ⟨[c].toArray⟩ := zmA hr1
   subst e0; subst e1
   have hv : vs = #[.string ⟨l.toArray⟩, .string ⟨#[c]⟩] := by
    have hs : vs.size = 2 := hs
    apply Array.ext
    ·simp [hs]
    ·intro i hi hi'
     have : i = 0 ∨ i = 1 := by omega
     rcases this with rfl | rfl
     ·exact (Array.getElem?_eq_some_iff.1 hu0).2
     ·exact (Array.getElem?_eq_some_iff.1 hu1).2
   subst hv
   refine (h ⟨l.toArray⟩ c w).mono ?_
   rintro e w' ⟨rfl, rfl⟩
   refine ⟨_, rfl, QD hR ⟨rfl, ?_⟩⟩
   exact .at _ rfl
  ·cases hxy
end
end Go.Lv

namespace Go.Lv
inductive All2 {α β : Type} (R : α → β → Prop) : List α → List β → Prop where
 | nil : All2 R [] []
 | cons {a : α} {b : β} {l : List α} {m : List β} (h : R a b) (t : All2 R l m) : All2 R (a :: l) (b :: m)
section
variable {I : Ip} {P : Program}
theorem zAx {X Y : Type} (B : (X → Option Y) → X → Option Y) (n : Nat) : zjm B n = Nat.rec (motive := fun _ => X → Option Y) (fun _ => Option.none) (fun _ S => B S) n := by
 induction n with
 | zero => rfl
 | succ n ih => funext x; show B (zjm B n) x = B _ x; rw [ih]
theorem zg.recE {f : Nat} {inS : StSh} {cst : List Nat} {outS : StSh} {k : Nat} (B : ((inS.sl I).T → Option (outS.sl I).T) → (inS.sl I).T → Option (outS.sl I).T)
  (hwf : zoa (⟨f, inS, cst, outS, k, fun _ => Option.none⟩ : Con I) = true) (hB : ∀ S, zg P (⟨f, inS, cst, outS, k, S⟩ : Con I) → zg P (⟨f, inS, cst, outS, k, B S⟩ : Con I)) : zg P (⟨f, inS, cst, outS, k, Lv.recE B⟩ : Con I) :=
 zg.recf B hwf hB fun x y h => by
  obtain ⟨n, hn⟩ := zBj h
  exact ⟨n, by rw [← zAx]; exact hn⟩
end
end Go.Lv

namespace Go.Lv
mutual
/-- How many values and letters there are. -/
def bPV : PV → Nat
 | .at _ => 1
 | .str l => l.length + 1
 | .sl rows => zsX rows + 1
 | .ptr cells => zt cells + 1
def zsX : List (List PV) → Nat
 | [] => 0
 | r :: rs => zt r + zsX rs
def zt : List PV → Nat
 | [] => 0
 | c :: cs => bPV c + zt cs
end
mutual
/-- Integers are in their kind's range. -/
def okPV : PV → Prop
 | .at (.int k n) => k.min ≤ n ∧ n ≤ k.max
 | .at _ => True
 | .str _ => True
 | .sl rows => zA5 rows
 | .ptr cells => zca cells
def zA5 : List (List PV) → Prop
 | [] => True
 | r :: rs => zca r ∧ zA5 rs
def zca : List PV → Prop
 | [] => True
 | c :: cs => okPV c ∧ zca cs
end
theorem zkI : ∀ (a b : List PV), zt (a ++ b) = zt a + zt b
 | [], b => by simp [zt]
 | x :: a, b => by simp only [List.cons_append, zt, zkI a b]; omega
theorem zjY : ∀ (a b : List PV), zca (a ++ b) ↔ zca a ∧ zca b
 | [], b => by simp [zca]
 | x :: a, b => by simp only [List.cons_append, zca, zjY a b, and_assoc]
structure zDi (bk : {H : Type} → DataW H → Nat) : Prop where
 one : ∀ {H : Type} (d : DataW H), 1 ≤ bk d
 str : ∀ {H : Type} (l : List UInt8), bk (DataW.lit (H := H) (.string l)) = l.length + 1
 slice : ∀ {H : Type} (a b : List (DataW H)), (a.map bk).sum + 1 ≤ bk (.slice a b)
 agg : ∀ {H : Type} (a : List (DataW H)), (a.map bk).sum + 1 ≤ bk (.agg a)
structure IpRd (P : Program) (I : Ip) (G : Nat → Prop) : Prop where
 int : ∀ t k, G t → P.underlying t = some (.int k) → ∀ n, k.min ≤ n → n ≤ k.max → ∃ x : I.C t, I.full t x = [.at (.int k n)]
 bool : ∀ t, G t → P.underlying t = some .bool → ∀ b, ∃ x : I.C t, I.full t x = [.at (.bool b)]
 str : ∀ t, G t → P.underlying t = some .string → ∀ l, ∃ x : I.C t, I.full t x = [.str l]
 sl : ∀ t e, G t → P.underlying t = some (.slice e) → G e ∧ 0 < P.cellsOf e ∧ ∀ l : List (I.C e), ∃ x : I.C t, I.full t x = [.sl (l.map (I.full e))]
 st : ∀ t fs, G t → P.underlying t = some (.struct fs) → (∀ f ∈ fs.toList, G f.type) ∧ (∀ (i : Nat) f, fs.toList[i]? = some f → f.offset = ((fs.toList.take i).map fun f => P.cellsOf f.type).sum) ∧ P.cellsOf t = (fs.toList.map fun f => P.cellsOf f.type).sum ∧
  ∀ pvs : List (List PV), All2 (fun (f : Field) p => ∃ y : I.C f.type, I.full f.type y = p) fs.toList pvs → ∃ x : I.C t, I.full t x = pvs.flatten
 only : ∀ t u, G t → P.underlying t = some u → (∃ k, u = .int k) ∨ u = .bool ∨ u = .string ∨ (∃ e, u = .slice e) ∨ (∃ fs, u = .struct fs)
def offs (P : Program) : Nat → List (Nat × Nat) → Bool
 | _, [] => true
 | off, (t, o) :: r => Nat.beq o off && offs P (off + P.cellsOf t) r
def zdg (P : Program) (t : Nat) : List (Nat × Nat) := match P.underlying t with
 | some (.struct fs) => fs.toList.map fun f => (f.type, f.offset)
 | _ => []
theorem zA4 {P : Program} : ∀ {l : List (Nat × Nat)} {off : Nat}, offs P off l = true → ∀ (i : Nat) p, l[i]? = some p → p.2 = off + ((l.take i).map fun p => P.cellsOf p.1).sum
 | [], off, _, i, p, h => by cases h
 | (t, o) :: r, off, h, i, p, hi => by
  simp only [offs, Bool.and_eq_true] at h
  cases i with
  | zero => cases hi; simpa using Nat.eq_of_beq_eq_true h.1
  | succ i =>
   have := zA4 h.2 i p (by simpa using hi)
   rw [this]
   simp only [List.take_succ_cons, List.map_cons, List.sum_cons]
   omega
theorem zG {α β : Type} {R : α → β → Prop} {a : α} {l : List α} {m : List β} (h : All2 R (a :: l) m) : ∃ b m', m = b :: m' ∧ R a b ∧ All2 R l m' := by
 cases h with
 | cons h t => exact ⟨_, _, rfl, h, t⟩
theorem QU {α β : Type} {R : α → β → Prop} {m : List β} (h : All2 R [] m) : m = [] := by cases h; rfl
theorem zxX {α β γ : Type} {f : α → γ} {R : γ → β → Prop} : ∀ {l : List α} {m : List β}, All2 (fun a b => R (f a) b) l m → All2 R (l.map f) m
 | [], _, h => by cases h; exact .nil
 | a :: l, _, h => by
  cases h with
  | cons h t => exact .cons h (zxX t)
theorem zjy {P : Program} {I : Ip} {G : Nat → Prop} {t : Nat} {fs : Array Field} (hu : P.underlying t = some (.struct fs)) {ft : List (Nat × Nat)} (hft : zdg P t = ft) (hg : ∀ p ∈ ft, G p.1) (ho : offs P 0 ft = true)
  (hs : P.cellsOf t = (ft.map fun p => P.cellsOf p.1).sum) (mk : ∀ pvs : List (List PV), All2 (fun (p : Nat × Nat) q => ∃ y : I.C p.1, I.full p.1 y = q) ft pvs → ∃ x : I.C t, I.full t x = pvs.flatten) :
  (∀ f ∈ fs.toList, G f.type) ∧ (∀ (i : Nat) f, fs.toList[i]? = some f → f.offset = ((fs.toList.take i).map fun f => P.cellsOf f.type).sum) ∧ P.cellsOf t = (fs.toList.map fun f => P.cellsOf f.type).sum ∧
  ∀ pvs : List (List PV), All2 (fun (f : Field) p => ∃ y : I.C f.type, I.full f.type y = p) fs.toList pvs → ∃ x : I.C t, I.full t x = pvs.flatten := by
 have hft : fs.toList.map (fun f => (f.type, f.offset)) = ft := by
  unfold zdg at hft
  rw [hu] at hft
  exact hft
 refine ⟨fun f hf => hg (f.type, f.offset) (by rw [← hft]; exact List.mem_map.2 ⟨f, hf, rfl⟩), fun i f hi => ?_, ?_, fun pvs h => mk pvs ?_⟩
 ·have := zA4 ho i (f.type, f.offset) (by rw [← hft, List.getElem?_map, hi]; rfl)
  simp only [Nat.zero_add] at this
  rw [this, ← hft, ← List.map_take, List.map_map]
  rfl
 ·rw [hs, ← hft, List.map_map]
  rfl
 ·rw [← hft]
  exact zxX h
theorem zoo {α β : Type} {g : α → Option β} : ∀ {l : List α} {r : List β}, l.mapM g = some r → All2 (fun a b => g a = some b) l r
 | [], r, h => by
  simp only [List.mapM_nil, Option.pure_def, Option.some.injEq] at h
  subst h; exact .nil
 | a :: l, r, h => by
  rw [List.mapM_cons] at h
  obtain ⟨b, h1, h2⟩ := Option.bind_eq_some_iff.1 h
  obtain ⟨r', h3, h4⟩ := Option.bind_eq_some_iff.1 h2
  simp only [Option.pure_def, Option.some.injEq] at h4
  subst h4
  exact .cons h1 (zoo h3)
theorem All2.len {α β : Type} {R : α → β → Prop} {l : List α} {m : List β} (h : All2 R l m) : l.length = m.length := by
 induction h with
 | nil => rfl
 | cons _ _ ih => simp [ih]
theorem All2.at {α β : Type} {R : α → β → Prop} {l : List α} {m : List β} (h : All2 R l m) : ∀ {i : Nat} {a : α}, l[i]? = some a → ∃ b, m[i]? = some b ∧ R a b := by
 induction h with
 | nil => intro i a h; cases h
 | cons h t ih =>
  intro i a hi
  cases i with
  | zero => cases hi; exact ⟨_, rfl, h⟩
  | succ i => exact ih hi
def zgg (w : World) (cs : List Value) (pvs : List PV) : Prop := cs.length = pvs.length ∧ ∀ (j : Nat) v pv, cs[j]? = some v → pvs[j]? = some pv → RepP (fun b => b < w.heap.size) w pv v ∧ v.oneCell' = true
theorem zgg.one {w : World} {v : Value} {pv : PV} (h : RepP (fun b => b < w.heap.size) w pv v) (ho : v.oneCell' = true) : zgg w [v] [pv] := by
 refine ⟨rfl, fun j u q hu hq => ?_⟩
 cases j with
 | zero => cases hu; cases hq; exact ⟨h, ho⟩
 | succ j => cases hu
theorem zgg.append {w : World} {a b : List Value} {p q : List PV} (h : zgg w a p) (g : zgg w b q) : zgg w (a ++ b) (p ++ q) := by
 refine ⟨by simp [h.1, g.1], fun j v pv hv hp => ?_⟩
 by_cases hj : j < a.length
 ·rw [List.getElem?_append_left hj] at hv
  rw [List.getElem?_append_left (by rw [← h.1]; exact hj)] at hp
  exact h.2 j v pv hv hp
 ·rw [List.getElem?_append_right (by omega)] at hv
  rw [List.getElem?_append_right (by have := h.1; omega), ← h.1] at hp
  exact g.2 _ v pv hv hp
section
variable {P : Program} {I : Ip} {G : Nat → Prop} {bk : {H : Type} → DataW H → Nat}
theorem zqf {H : Type} {D : Nat → List Value → Option (DataW H × List MemPlace)} {w : World}
  (hD : ∀ t cs d ps, G t → D t cs = some (d, ps) → ∃ x : I.C t, zgg w cs (I.full t x) ∧ zt (I.full t x) ≤ bk d ∧ zca (I.full t x)) (cs : List Value) :
  ∀ (fs : List Field) (off : Nat) (xs : List (DataW H × List MemPlace)), (∀ f ∈ fs, G f.type) → (∀ (i : Nat) f, fs[i]? = some f → f.offset = off + ((fs.take i).map fun f => P.cellsOf f.type).sum) →
   All2 (fun (f : Field) x => D f.type ((cs.drop f.offset).take (P.cellsOf f.type)) = some x) fs xs →
   ∃ pvs : List (List PV), All2 (fun (f : Field) p => ∃ y : I.C f.type, I.full f.type y = p) fs pvs ∧ zgg w ((cs.drop off).take ((fs.map fun f => P.cellsOf f.type).sum)) pvs.flatten ∧ zt pvs.flatten ≤ ((xs.map (·.1)).map bk).sum ∧ zca pvs.flatten
 | [], off, xs, _, _, h => by
  cases h
  refine ⟨[], .nil, ⟨by simp, fun j v pv hv => by simp at hv⟩, by simp [zt], trivial⟩
 | f :: fs, off, xs, hG, ho, h => by
  cases h with
  | @cons _ x _ xs' h1 h2 =>
   obtain ⟨d, ps⟩ := x
   have h0 : f.offset = off := by have := ho 0 f rfl; simpa using this
   obtain ⟨y, y1, y2, y3⟩ := hD f.type _ d ps (hG f (List.mem_cons_self ..)) h1
   obtain ⟨pvs, q1, q2, q3, q4⟩ := zqf hD cs fs (off + P.cellsOf f.type) xs' (fun g hg => hG g (List.mem_cons_of_mem _ hg)) (fun i g hi => by
    have := ho (i + 1) g (by simpa using hi)
    rw [this]
    simp only [List.take_succ_cons, List.map_cons, List.sum_cons]
    omega) h2
   refine ⟨I.full f.type y :: pvs, .cons ⟨y, rfl⟩ q1, ?_, ?_, ?_⟩
   ·rw [h0] at y1
    have e : (cs.drop off).take (((f :: fs).map fun f => P.cellsOf f.type).sum) = (cs.drop off).take (P.cellsOf f.type) ++ (cs.drop (off + P.cellsOf f.type)).take ((fs.map fun f => P.cellsOf f.type).sum) := by
     rw [List.map_cons, List.sum_cons, List.take_add, List.drop_drop]
    rw [e, List.flatten_cons]
    exact y1.append q2
   ·rw [List.flatten_cons, zkI]
    simp only [List.map_cons, List.sum_cons]
    omega
   ·rw [List.flatten_cons]
    exact (zjY _ _).2 ⟨y3, q4⟩
theorem zvg {w : World} {a : Addr} {v : Value} (h : w.cell? a = some v) : a.spot = none ∧ a.block < w.heap.size := by
 unfold World.cell? at h
 split at h
 ·rename_i c t fr hb
  refine ⟨?_, (Array.getElem?_eq_some_iff.1 hb).1⟩
  cases hs : a.spot with
  | none => rfl
  | some s => rw [hs] at h; cases h
 ·cases h
theorem zvh {w : World} {a : Addr} {n : Nat} {cs : List Value} (h : w.cells? 0 a n = some cs) : cs.length = n ∧ ∀ (i : Nat) v, cs[i]? = some v → w.cell? (a.add i) = some v := by
 unfold World.cells? at h
 rw [if_pos (Nat.zero_le _)] at h
 have h := zoo h
 have hl := h.len
 rw [List.length_range] at hl
 refine ⟨hl.symm, fun i v hv => ?_⟩
 have hi : i < n := by rw [hl]; exact (List.getElem?_eq_some_iff.1 hv).1
 obtain ⟨b, h1, h2⟩ := h.at (i := i) (a := i) (by rw [List.getElem?_range hi])
 rw [hv] at h1; cases h1
 exact h2
theorem zzL {a : Addr} (n m : Nat) (h : (a.add n).spot = none) : (a.add n).add m = ⟨a.block, a.off + n + m, none⟩ ∧ a.block = (a.add n).block := by
 obtain ⟨b, o, s⟩ := a
 by_cases hn : n = 0
 ·subst hn
  have e : (⟨b, o, s⟩ : Addr).add 0 = ⟨b, o, s⟩ := if_pos rfl
  rw [e] at h ⊢
  have h : s = none := h
  subst h
  refine ⟨?_, rfl⟩
  unfold Addr.add
  by_cases hm : m = 0
  ·subst hm; rw [if_pos rfl]; rfl
  ·rw [if_neg hm]; rfl
 ·have e : (⟨b, o, s⟩ : Addr).add n = ⟨b, o + n, none⟩ := if_neg hn
  rw [e]
  refine ⟨?_, rfl⟩
  unfold Addr.add
  by_cases hm : m = 0
  ·subst hm; rw [if_pos rfl]; rfl
  ·rw [if_neg hm]
theorem zBu {w : World} {e k : Nat} {a : Addr} {H : Type} {D : List Value → Option (DataW H × List MemPlace)} (hk : 0 < k)
  (hD : ∀ cs d ps, D cs = some (d, ps) → ∃ x : I.C e, zgg w cs (I.full e x) ∧ zt (I.full e x) ≤ bk d ∧ zca (I.full e x)) (hI : ∀ x : I.C e, (I.full e x).length = k) :
  ∀ (n s : Nat) (r : List (DataW H × List MemPlace)), All2 (fun i x => (w.cells? 0 (a.add (i * k)) k).bind D = some x) (List.range' s n) r →
   ∃ l : List (I.C e), l.length = n ∧ zsX (l.map (I.full e)) ≤ ((r.map (·.1)).map bk).sum ∧ zA5 (l.map (I.full e)) ∧
    ∀ (i : Nat) x (j : Nat) pv, l[i]? = some x → (I.full e x)[j]? = some pv → ∃ v, w.cell? ⟨a.block, a.off + (s + i) * k + j, none⟩ = some v ∧ RepP (fun b => b < w.heap.size) w pv v ∧ v.oneCell' = true
 | 0, s, r, h => by
  cases h
  exact ⟨[], rfl, by simp [zsX], trivial, fun i x j pv h => by cases h⟩
 | n + 1, s, r, h => by
  rw [List.range'_succ] at h
  cases h with
  | @cons _ x _ r' h1 h2 =>
   obtain ⟨cs, g1, g2⟩ := Option.bind_eq_some_iff.1 h1
   obtain ⟨d, ps⟩ := x
   obtain ⟨y, y1, y2, y3⟩ := hD cs d ps g2
   obtain ⟨l, l1, l2, l3, l4⟩ := zBu hk hD hI n (s + 1) r' h2
   obtain ⟨c1, c2⟩ := zvh g1
   refine ⟨y :: l, by simp [l1], ?_, ⟨y3, l3⟩, fun i z j pv hz hp => ?_⟩
   ·simp only [List.map_cons, zsX, List.sum_cons]
    omega
   ·cases i with
    | zero =>
     cases hz
     have hj : j < cs.length := by rw [y1.1]; exact (List.getElem?_eq_some_iff.1 hp).1
     have hv : cs[j]? = some cs[j] := List.getElem?_eq_getElem hj
     obtain ⟨r1, r2⟩ := y1.2 j _ _ hv hp
     have hc := c2 j _ hv
     have h0 := c2 0 cs[0] (List.getElem?_eq_getElem (by omega))
     have hs0 := (zvg h0).1
     have hsp : (a.add (s * k)).spot = none := by
      have e0 : (a.add (s * k)).add 0 = a.add (s * k) := if_pos rfl
      rw [e0] at hs0
      exact hs0
     refine ⟨_, ?_, r1, r2⟩
     rw [Nat.add_zero, ← (zzL (s * k) j hsp).1]
     exact hc
    | succ i =>
     obtain ⟨v, v1, v2, v3⟩ := l4 i z j pv hz hp
     refine ⟨v, ?_, v2, v3⟩
     rw [show s + (i + 1) = s + 1 + i by omega]
     exact v1
theorem zDB {n : Int} (h1 : IntKind.u8.min ≤ n) (h2 : n ≤ IntKind.u8.max) : [PV.at (.int .u8 (((UInt8.ofNat n.toNat).toNat : Nat) : Int))] = [PV.at (.int .u8 n)] := by
 have h1 : (0 : Int) ≤ n := h1
 have h2 : n ≤ 255 := h2
 rw [UInt8.toNat_ofNat']
 have : ((n.toNat % 2 ^ 8 : Nat) : Int) = n := by omega
 rw [this]
theorem reads (hI : IpOK P I) (hG : IpRd P I G) (hb : zDi bk) {H : Type} (enc : TypeId × Value → H) (w : World) :
  ∀ (fuel : Nat) (t : Nat) (cs : List Value) (d : DataW H) (ps : List MemPlace), G t → DataW.trod enc P w 0 (fun _ => true) true fuel t cs = some (d, ps) → ∃ x : I.C t, zgg w cs (I.full t x) ∧ zt (I.full t x) ≤ bk d ∧ zca (I.full t x) := by
 intro fuel
 induction fuel with
 | zero => intro t cs d ps _ h; cases h
 | succ fuel ih =>
  intro t cs d ps hg h
  simp only [DataW.trod] at h
  cases hu : P.underlying t with
  | none => rw [hu] at h; simp at h
  | some u =>
   rw [hu] at h
   rcases hG.only t u hg hu with ⟨k, rfl⟩ | rfl | rfl | ⟨e, rfl⟩ | ⟨fs, rfl⟩
   ·split at h <;> (try (rename_i hh; cases hh; done)) <;> (try (rename_i hh _; cases hh; done)) <;> (try (cases h; done))
    rename_i k0 k' n hh
    cases hh
    split at h
    ·rename_i hc
     cases h
     obtain ⟨rfl, hwf⟩ := hc
     have hwf' := hwf
     simp only [Lit.wf, Bool.and_eq_true, decide_eq_true_eq] at hwf'
     obtain ⟨x, hx⟩ := hG.int t _ hg hu n hwf'.1 hwf'.2
     refine ⟨x, ?_, ?_, ?_⟩
     ·rw [hx]; exact zgg.one (.at _ rfl) rfl
     ·rw [hx]; simp only [zt, bPV]; exact hb.one _
     ·rw [hx]
      simp only [Lit.wf, Bool.and_eq_true, decide_eq_true_eq] at hwf
      exact ⟨hwf, trivial⟩
    ·cases h
   ·split at h <;> (try (rename_i hh; cases hh; done)) <;> (try (rename_i hh _; cases hh; done)) <;> (try (cases h; done))
    cases h
    rename_i b _
    obtain ⟨x, hx⟩ := hG.bool t hg hu b
    refine ⟨x, by rw [hx]; exact zgg.one (.at _ rfl) rfl, by rw [hx]; simp only [zt, bPV]; exact hb.one _, by rw [hx]; exact ⟨trivial, trivial⟩⟩
   ·split at h <;> (try (rename_i hh; cases hh; done)) <;> (try (rename_i hh _; cases hh; done)) <;> (try (cases h; done))
    rename_i s _
    split at h
    ·cases h
     obtain ⟨x, hx⟩ := hG.str t hg hu s.data.toList
     refine ⟨x, ?_, ?_, by rw [hx]; exact ⟨trivial, trivial⟩⟩
     ·rw [hx]
      have : Value.string s = .string ⟨s.data.toList.toArray⟩ := by cases s; simp
      rw [this]
      exact zgg.one (.str _) rfl
     ·rw [hx]; simp only [zt, bPV, hb.str]; omega
    ·cases h
   ·obtain ⟨ge, hk, hmk⟩ := hG.sl t e hg hu
    split at h <;> (try (rename_i hh; cases hh; done)) <;> (try (rename_i hh _; cases hh; done)) <;> (try (cases h; done))
    ·cases h
     obtain ⟨x, hx⟩ := hmk []
     refine ⟨x, ?_, ?_, by rw [hx]; exact ⟨trivial, trivial⟩⟩
     ·rw [hx]
      exact zgg.one (.sl [] none 0 0 0 0 0 (fun _ _ => undef) rfl (Nat.le_refl _) (fun h => by omega) (fun h => by omega) (fun r hr => by cases hr) (fun i row j x h => by cases h) (fun i row j x h => by cases h)) rfl
     ·rw [hx]; simp only [List.map_nil, zt, bPV, zsX]; exact hb.one _
    ·rename_i e' a len cap hh
     cases hh
     split at h
     ·rename_i hc
      obtain ⟨elems, h1, h2⟩ := Option.bind_eq_some_iff.1 h
      obtain ⟨rest, h3, h4⟩ := Option.map_eq_some_iff.1 h2
      cases h4
      have h1 := zoo h1
      rw [List.range_eq_range'] at h1
      obtain ⟨l, l1, l2, l3, l4⟩ := zBu (I := I) (bk := bk) (w := w) (e := e) (a := a) hk (fun cs d ps hd => ih e cs d ps ge hd) (fun x => hI.len e x) len 0 elems h1
      obtain ⟨x, hx⟩ := hmk l
      refine ⟨x, ?_, ?_, ?_⟩
      ·rw [hx]
       have hall : ∀ i x j pv, l[i]? = some x → (I.full e x)[j]? = some pv → ∃ v, w.cell? ⟨a.block, a.off + i * P.cellsOf e + j, none⟩ = some v ∧ RepP (fun b => b < w.heap.size) w pv v := fun i x j pv h1 h2 => by
        obtain ⟨v, v1, v2, _⟩ := l4 i x j pv h1 h2
        exact ⟨v, by simpa using v1, v2⟩
       have hne : 0 < len → ∃ v, w.cell? (a.add (0 * P.cellsOf e)) = some v := by
        intro hl
        have h0 := h1.at (i := 0) (a := 0) (by rw [← List.range_eq_range', List.getElem?_range hl])
        obtain ⟨b, _, hb2⟩ := h0
        obtain ⟨cs, g1, _⟩ := Option.bind_eq_some_iff.1 hb2
        obtain ⟨c1, c2⟩ := zvh g1
        have h0 := c2 0 (cs[0]'(by omega)) (List.getElem?_eq_getElem (by omega))
        have e0 : (a.add (0 * P.cellsOf e)).add 0 = a.add (0 * P.cellsOf e) := if_pos rfl
        rw [e0] at h0
        exact ⟨_, h0⟩
       have ha : 0 < len → a = ⟨a.block, a.off, none⟩ ∧ a.block < w.heap.size := by
        intro hl
        obtain ⟨v, hv⟩ := hne hl
        rw [Nat.zero_mul] at hv
        have e0 : a.add 0 = a := if_pos rfl
        rw [e0] at hv
        obtain ⟨q1, q2⟩ := zvg hv
        refine ⟨?_, q2⟩
        cases a
        simp only at q1
        subst q1
        rfl
       refine zgg.one (.sl _ (some a) len cap (P.cellsOf e) a.block a.off (fun i j => (w.cell? ⟨a.block, a.off + i * P.cellsOf e + j, none⟩).getD undef) (by simp [l1]) hc.2.1 (fun hl => congrArg some (ha hl).1) (fun hl => (ha hl).2) (fun row hr => ?_) (fun i row j x hi hj => ?_) (fun i row j x hi hj => ?_)) rfl
       ·obtain ⟨z, _, rfl⟩ := List.mem_map.1 hr
        exact hI.len e z
       ·rw [List.getElem?_map] at hi
        cases hz : l[i]? with
        | none => rw [hz] at hi; cases hi
        | some z =>
         rw [hz] at hi; cases hi
         obtain ⟨v, v1, _⟩ := hall i z j x hz hj
         rw [v1]; rfl
       ·rw [List.getElem?_map] at hi
        cases hz : l[i]? with
        | none => rw [hz] at hi; cases hi
        | some z =>
         rw [hz] at hi; cases hi
         obtain ⟨v, v1, v2⟩ := hall i z j x hz hj
         rw [v1]; exact v2
      ·rw [hx]
       simp only [zt, bPV]
       have := hb.slice (elems.map (·.1)) (rest.map (·.1))
       omega
      ·rw [hx]; exact ⟨l3, trivial⟩
     ·cases h
   ·obtain ⟨gf, ho, hsz, hmk⟩ := hG.st t fs hg hu
    have h : (if cs.length = P.cellsOf t then (fs.toList.mapM fun f => DataW.trod enc P w 0 (fun _ => true) true fuel f.type ((cs.drop f.offset).take (P.cellsOf f.type))).map fun xs => (DataW.agg (xs.map (·.1)), xs.flatMap (·.2)) else none) = some (d, ps) := by
     revert h
     cases cs with
     | nil => exact id
     | cons c cs =>
      cases cs with
      | nil => cases c <;> exact id
      | cons c' cs => exact id
    split at h
    ·rename_i hl
     obtain ⟨xs, h1, h2⟩ := Option.map_eq_some_iff.1 h
     cases h2
     obtain ⟨pvs, q1, q2, q3, q4⟩ := zqf (P := P) (I := I) (G := G) (bk := bk) (D := DataW.trod enc P w 0 (fun _ => true) true fuel) (w := w) (fun t cs d ps => ih t cs d ps) cs fs.toList 0 xs gf (fun i f hi => by rw [ho i f hi]; omega) (zoo h1)
     obtain ⟨x, hx⟩ := hmk pvs q1
     refine ⟨x, ?_, ?_, by rw [hx]; exact q4⟩
     ·rw [hx]
      rw [List.drop_zero, ← hsz, ← hl, List.take_length] at q2
      exact q2
     ·rw [hx]
      have := hb.agg (xs.map (·.1))
      omega
    ·cases h
end
end Go.Lv

namespace Go.Lv
open Go.RowKit Go.ChangeShapes Go.WideShapes
section
variable {P : Program} {I : Ip}
def noA : Asg := fun _ => .free
theorem zBs {W : World} {pv : PV} {v : Value} (h : RepP (fun b => b < W.heap.size) W pv v) : RepP (Dom noA W) W pv v :=
 h.mono (fun b hb => ⟨hb, fun id k e => by cases e⟩) (fun b _ => rfl)
theorem zFa {W : World} {r : Reach} {base : Nat} {t : TypeId} {v : Value} {u : TypeDesc} {pv : PV} (hu : P.underlying t = some u) (hs : ∀ fs, u ≠ .struct fs) (ha : ∀ n e, u ≠ .array n e) (hok : Value.okWide P W r base t v) (hr : zgg W v.cells.toList [pv]) : repT noA W (.c (.p pv)) v := by
 have hok : Cell.okWide P W r base t v := by
  unfold Value.okWide at hok
  rw [hu] at hok
  cases u <;> first | exact hok | exact absurd rfl (hs _) | exact absurd rfl (ha _ _)
 have hv : v.cells = #[v] := by
  cases v <;> first | rfl | skip
  exfalso
  unfold Cell.okWide at hok
  rw [hu] at hok
  cases u <;> simp only [Cell.ok, hu] at hok
 rw [hv] at hr
 obtain ⟨h1, h2⟩ := hr.2 0 v pv rfl rfl
 exact ⟨h2, zBs h1⟩
theorem zEG {W : World} {r : Reach} {base : Nat} {t : TypeId} {v : Value} {fs : Array Field} {pvs : List PV} (hu : P.underlying t = some (.struct fs)) (hok : Value.okWide P W r base t v) (hr : zgg W v.cells.toList pvs) : repT noA W (.agg (pvs.map .p)) v := by
 unfold Value.okWide at hok
 rw [hu] at hok
 obtain ⟨cs, rfl, _, _⟩ := hok
 have hr : zgg W cs.toList pvs := hr
 refine ⟨cs, rfl, by rw [List.length_map, ← hr.1, Array.length_toList], fun j x hx => ?_⟩
 rw [List.getElem?_map] at hx
 cases hp : pvs[j]? with
 | none => rw [hp] at hx; cases hx
 | some pv =>
  rw [hp] at hx
  cases hx
  have hj : j < cs.toList.length := by rw [hr.1]; exact (List.getElem?_eq_some_iff.1 hp).1
  have hv : cs.toList[j]? = some cs.toList[j] := List.getElem?_eq_getElem hj
  obtain ⟨h1, h2⟩ := hr.2 j _ pv hv hp
  exact ⟨_, by rw [← Array.getElem?_toList]; exact hv, h2, zBs h1⟩
theorem zB1 {W : World} : zdh noA W [] #[] := ⟨rfl, fun j t h => by cases h⟩
theorem zoF {W : World} {t : TV} {ts : List TV} {v : Value} {vs : List Value} (h : repT noA W t v) (g : zdh noA W ts vs.toArray) : zdh noA W (t :: ts) (v :: vs).toArray := by
 refine ⟨by have := g.1; simpa using this, fun j x hx => ?_⟩
 cases j with
 | zero => cases hx; exact ⟨v, by simp, h⟩
 | succ j =>
  obtain ⟨u, h1, h2⟩ := g.2 j x (by simpa using hx)
  exact ⟨u, by simpa using h1, h2⟩
theorem zAA {con : Con I} (hc : zg P con) (hi : con.inS.objs = []) (ho : con.outS = ⟨[.bool], []⟩) (hk : con.k = 0) {x : (con.inS.sl I).T} {y : (con.outS.sl I).T} (hF : con.F x = some y) {b : Bool} (hy : ((con.outS.sl I).enc y).1 = [.c (.bool b)]) (hin : ((con.inS.sl I).enc x).2 = []) (hyo : ((con.outS.sl I).enc y).2 = [])
  {W : World} {vs : Array Value} (hargs : zdh noA W (((con.inS.sl I).enc x).1.map (trT (fun i => i) (lk []))) vs) :
  Calls P con.f vs W fun e W' => e = .returned (.bool b) ∧ Below W.heap.size W W' := by
 have h := hc.ok x y hF (fun i => i) 0 (fun i j hi' => by rw [hi] at hi'; simp at hi') (fun i hi' => by rw [hi] at hi'; simp at hi') (fun j => by rw [hi]; simp)
 rw [hin, hyo, hy, hi, hk] at h
 refine (h.ok noA (fun _ => none) W 0 vs ⟨fun id o ho => by (cases ho), fun id _ => .inl rfl, fun i j b k k' h => by (cases h)⟩ (fun id _ => rfl) (fun j _ => rfl) hargs (fun p hp => by cases hp)).mono fun e W' ⟨v, he, ι', h1, h2, h3, h4⟩ => ?_
 have hv : RepP (Dom ι' W') W' (.at (.bool b)) v := h2.2
 cases hv
 exact ⟨he, h3.os, h3.tape, h3.output, h3.size, fun k hk => h3.keep k ⟨hk, fun id n e => by cases e⟩⟩
theorem zCD {H : Type} {enc : TypeId × Value → H} {f : Func} {s : ChangeSpec} {apart fresh handsOn again : Bool} {W W' : World} {args : Array Value} {ds gs : List (DataW H)} {before pa : List MemPlace} {tb : TypeId}
  (hW : DataW.Whole enc P f.params.toList s.vars apart W args.toList ds gs before) (hvars : s.vars = []) (hrt : f.resultTypes = #[tb]) (htb : P.underlying tb = some .bool)
  (hres : (s.fn H (ds ++ gs)).results = [.lit (.bool true)]) (hvs : (s.fn H (ds ++ gs)).vars = [])
  (hargs : ∀ sp : Nat → Bool, (∀ p ∈ before, sp p.block = true) → DataW.TrodAll enc P W' 0 sp true f.params.toList args.toList (s.fn H (ds ++ gs)).args pa)
  (hps : before = pa) (hb : Below W.heap.size W W') : s.post enc P f apart fresh handsOn again W args (.bool true) W' := by
 have hlt : ∀ p ∈ before, p.block < W.heap.size := fun p hp => hW.lt p hp
 have hold : ∀ p ∈ before, (fun b => decide (b < W.heap.size)) p.block = true := fun p hp => by simpa using hlt p hp
 have hr : ∀ (b : Nat) (sp : Nat → Bool) (hd : Bool), DataW.TrodAll enc P W' b sp hd f.resultTypes.toList ((Value.bool true).resultList f.resultTypes.size) (s.fn H (ds ++ gs)).results [] := by
  intro b sp hd
  rw [hrt, hres]
  exact trodAll_cons_mk (shut_bool htb _) trodAll_mk0
 have hv : ∀ sp : Nat → Bool, DataW.TrodVars enc P W' sp s.vars (s.fn H (ds ++ gs)).vars [] := by
  intro sp
  rw [hvars, hvs]
  exact rfl
 refine ⟨ds, gs, before, [], pa, [], hW, hr _ _ _, hargs _ hold, hv _, World.keptBut_mono (fun p hp => ⟨hp, .inr (.inl (by rw [← hps]; exact hp))⟩) (hb.frame (· ∈ before)), fun _ => ?_⟩
 obtain ⟨_, _, _, _, _, hz, hn⟩ := hW
 refine ⟨ok_one hrt rfl (okWide_bool_mk htb _), _, _, ([] ++ pa) ++ [], ⟨[] ++ pa, [], trodAll_append (hargs _ (fun _ _ => rfl)) (hr _ _ _), hv _, rfl, ?_, ?_⟩, ?_⟩
 ·intro b off hp
  have hin : MemPlace.cell b off ∈ before := by rw [hps]; simpa using hp
  rw [hb.frozen (hlt _ hin)]
  exact hz b off hin
 ·intro ha
  have := hn ha
  rw [hps] at this
  simpa using this
 ·intro p hp _
  rw [hps]
  simpa using hp
theorem zmc {H : Type} {enc : TypeId × Value → H} (hl : laidOutB P = true) {W W' : World} (hb : Below W.heap.size W W') (sp : Nat → Bool) : ∀ (ts : List TypeId) (vs : List Value) (ds : List (DataW H)) (ps : List MemPlace), (∀ t ∈ ts, P.readableRec t = true ∧ t < P.types.size) →
  DataW.TrodAll enc P W 0 (fun _ => true) true ts vs ds ps → (∀ x ∈ ps, x.block < W.heap.size) → (∀ x ∈ ps, sp x.block = true) → DataW.TrodAll enc P W' 0 sp true ts vs ds ps
 | [], vs, ds, ps, _, h, _, _ => by
  cases vs <;> cases ds <;> first | exact h | (cases h; done)
 | t :: ts, vs, ds, ps, ht, h, hlt, hsp => by
  obtain ⟨v, vs', d, ds', p, q, rfl, rfl, rfl, h1, h2⟩ := trodAll_cons h
  have h3 := zmc hl hb sp ts vs' ds' q (fun t ht' => ht t (List.mem_cons_of_mem _ ht')) h2 (fun x hx => hlt x (List.mem_append_right _ hx)) (fun x hx => hsp x (List.mem_append_right _ hx))
  obtain ⟨r1, r2⟩ := ht t (List.mem_cons_self ..)
  exact ⟨p, q, WideElems.Trod_stays hl r1 r2 h1 (fun x hx => hb.same (hlt x (List.mem_append_left _ hx))) (fun x hx => hsp x (List.mem_append_left _ hx)), h3, rfl⟩
end
end Go.Lv

namespace Go.Lv
def Le {α : Type} (a b : Option α) : Prop := ∀ y, a = some y → b = some y
theorem Le.rfl {α : Type} {a : Option α} : Le a a := fun _ h => h
theorem Le.none {α : Type} {b : Option α} : Le none b := fun _ h => by cases h
theorem Le.bind {α β : Type} {a a' : Option α} {f f' : α → Option β} (h : Le a a') (hf : ∀ x, Le (f x) (f' x)) : Le (za a f) (za a' f') := by
 intro y hy
 cases a with
 | none => cases hy
 | some x => rw [h x _root_.rfl]; exact hf x y hy
theorem Le.bif {α : Type} {c : Bool} {a a' b b' : Option α} (h : Le a a') (h' : Le b b') : Le (bif c then a else b) (bif c then a' else b') := by
 cases c
 ·exact h'
 ·exact h
theorem Le.need {α : Type} {c : Bool} {a a' : Option α} (h : Le a a') : Le (Lv.need c a) (Lv.need c a') := by
 cases c
 ·exact Le.rfl
 ·exact h
theorem Le.cond {α : Type} {c : Bool} {a a' : Option α} {d : α} (h : Le a a') : Le (zz c a d) (zz c a' d) := by
 cases c
 ·exact Le.rfl
 ·exact h
theorem Le.map {α β : Type} {a a' : Option α} {f : α → β} (h : Le a a') : Le (Option.map f a) (Option.map f a') := by
 intro y hy
 cases a with
 | none => cases hy
 | some x => rw [h x _root_.rfl]; exact hy
theorem Le.join {X R : Type} {a a' : Option (LX X R)} {k k' : X → Option R} (h : Le a a') (hk : ∀ x, Le (k x) (k' x)) : Le (zZ a k) (zZ a' k') := by
 intro y hy
 cases a with
 | none => cases hy
 | some x =>
  rw [h x _root_.rfl]
  cases x with
  | out x => exact hk x y hy
  | ret r => exact hy
def zku (n : Nat) {S X R : Type} (step : S → Option (LO S X R)) (s : S) (k : X → Option R) : Option R :=
 match Z8 step n s with
 | some (.out x) => k x
 | some (.ret r) => some r
 | none => none
theorem ztt {S X R : Type} {step step' : S → Option (LO S X R)} (h : ∀ s, Le (step s) (step' s)) : ∀ (n : Nat) (s : S), Le (Z8 step n s) (Z8 step' n s)
 | 0, _ => Le.none
 | n + 1, s => by
  intro y hy
  simp only [Z8] at hy ⊢
  cases hs : step s with
  | none => rw [hs] at hy; cases hy
  | some o =>
   rw [hs] at hy
   rw [h s o hs]
   cases o with
   | again s' => exact ztt h n s' y hy
   | out x => exact hy
   | ret r => exact hy
theorem Le.loop {n : Nat} {S X R : Type} {step step' : S → Option (LO S X R)} {s : S} {k k' : X → Option R} (h : ∀ s, Le (step s) (step' s)) (hk : ∀ x, Le (k x) (k' x)) : Le (zku n step s k) (zN step' s k') := by
 intro y hy
 unfold zku at hy
 cases hi : Z8 step n s with
 | none => rw [hi] at hy; cases hy
 | some x =>
  rw [hi] at hy
  rw [zb3 (zbv (ztt h n s x hi))]
  cases x with
  | out x => exact hk x y hy
  | ret r => exact hy
theorem Le.rec {X Y : Type} {B B' : (X → Option Y) → X → Option Y} (h : ∀ (S S' : X → Option Y), (∀ x, Le (S x) (S' x)) → ∀ x, Le (B S x) (B' S' x)) (n : Nat) (x : X) : Le (zjm B n x) (recE B' x) := by
 have key : ∀ (n k : Nat), n ≤ k → ∀ x, Le (zjm B n x) (zjm B' k x) := by
  intro n
  induction n with
  | zero => intro k _ x; exact Le.none
  | succ n ih =>
   intro k hk x
   cases k with
   | zero => omega
   | succ k => exact h _ _ (ih k (by omega)) x
 intro y hy
 exact zxE (N := n) fun k hk => key n k hk x y hy
end Go.Lv

namespace Go.Lv
variable {I : Ip}
theorem zEB {s : Shp I} {r : VL I} {n : Nat} (h : ∀ x, (r.enc x).length = n) : ∀ x, ((VL.cons s r).enc x).length = n + 1 := by
 obtain ⟨T, u, d, e, m⟩ := s
 obtain ⟨T', u', d', e', m'⟩ := r
 cases u <;> cases u' <;> intro x <;> exact congrArg (· + 1) (h _)
theorem zDD : ∀ (l : List Sh) (x : (vlOf I l).T), ((vlOf I l).enc x).length = l.length
 | [], _ => rfl
 | s :: l, x => zEB (s := s.shp I) (zDD l) x
theorem zE3 (s : StSh) : ∀ x : (s.sl I).T, ((s.sl I).enc x).1.length = s.vals.length := by
 have h := zDD (I := I) s.vals
 unfold StSh.sl
 revert h
 generalize vlOf I s.vals = v
 generalize olOf I s.objs = o
 obtain ⟨T, u, d, e, m⟩ := v
 obtain ⟨T', u', d', e', m'⟩ := o
 cases u <;> cases u' <;> intro h x <;> exact h _
theorem zC {Q : Con I → Prop} : ∀ c ∈ ([] : List (Con I)), Q c := fun c h => by cases h
theorem memC {Q : Con I → Prop} {a : Con I} {l : List (Con I)} (h : Q a) (g : ∀ c ∈ l, Q c) : ∀ c ∈ a :: l, Q c := fun c hc => by
 rcases List.mem_cons.1 hc with rfl | hc
 ·exact h
 ·exact g c hc
def chk (con : Con I) (A : Env0 I) (f : Go.Func) : Bool := zoa con && (f.body.isSome && (!(f.name == "runtime.NumGoroutine") && (A.p == con.inS.objs.length && Nat.ble con.inS.vals.length f.ntmps)))
theorem okC0 {P : Program} {T : TT} {fk : List (Nat × List Kd)} (hmix : P.follows .mixedOrders = true) (hI : IpOK P I) (hT : TOK P T fk) {con : Con I} {f : Go.Func} {A : Env0 I} {exS : StSh} {c : Code} {rs : List ResultVar} (hb : c = match f.body with | some c => c | none => .skip) (hr : rs = f.results.toList)
  (hS : ∀ c ∈ A.S, zg P c) (hf : P.funcs[con.f]? = some f) (h : chk con A f = true) (he : ∀ x, evF2 A T fk f.ntmps rs c con exS x = con.F x) : zg P con := by
 unfold chk at h
 simp only [Bool.and_eq_true] at h
 obtain ⟨h1, h2, h3, h4, h5⟩ := h
 refine zs7 (exS := exS) hmix hI hS h1 hT hf ?_ ?_ (by simpa using h3) (beq_iff_eq.1 h4) (fun x => by rw [zE3]; exact Nat.le_of_ble_eq_true h5) (fun x y h => (he x).trans h)
 ·rw [hb]
  cases hb' : f.body with
  | none => rw [hb'] at h2; cases h2
  | some c => rfl
 ·rw [hr]
end Go.Lv
