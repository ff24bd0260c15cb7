/- The primitives of the plain texts of functions, and their laws. -/
import Derived.Test.YtnfhfeipljhciaaGreatDoorLc
import Derived.IntWalk
import Derived.Lib.Index
import Derived.Lib.IndexMore
import Derived.Lib.IndexAny
import Derived.Lib.SlTrimSet
import Derived.Lib.TrimByte
import Derived.Lib.ItoaNum
import Derived.Test.YtnfhfeipljhciaaGreatDoorLe
import Derived.Lib.Strings
import Derived.Lib.Bytealg
import GoSem.ClaimChange
import Derived.Below
import Derived.ChangeSame
import Derived.Carry
import Derived.ProofKit
import Derived.OpenShut
namespace Go.Lv
abbrev Str := List UInt8
abbrev w8 (n : Int) : Int := IntKind.i8.wrap n
abbrev w32 (n : Int) : Int := IntKind.i32.wrap n
abbrev w64 (n : Int) : Int := IntKind.i64.wrap n
abbrev wu8 (n : Int) : Int := IntKind.u8.wrap n
abbrev wu32 (n : Int) : Int := IntKind.u32.wrap n
abbrev wu64 (n : Int) : Int := IntKind.u64.wrap n
def zbh (k : IntKind) (x y : Int) : Int := k.wrap (BitVec.ofInt k.bits x &&& BitVec.ofInt k.bits y).toNat
def ibOr (k : IntKind) (x y : Int) : Int := k.wrap (BitVec.ofInt k.bits x ||| BitVec.ofInt k.bits y).toNat
def zpz (k : IntKind) (x y : Int) : Int := k.wrap (x * 2 ^ (min y.toNat k.bits))
def zbi (k : IntKind) (x y : Int) : Int := x.fdiv (2 ^ (min y.toNat k.bits))
def zT (n : Int) : Option UInt8 := cond (decide (0 ≤ n) && decide (n ≤ 255)) (some (UInt8.ofNat n.toNat)) none
theorem znI {n : Int} {b : UInt8} (h : zT n = some b) : n = ((b.toNat : Nat) : Int) := by
 unfold zT at h
 cases hc : (decide (0 ≤ n) && decide (n ≤ 255)) with
 | false => rw [hc] at h; cases h
 | true =>
  rw [hc] at h
  simp only [Bool.and_eq_true, decide_eq_true_eq] at hc
  injection h with h
  subst h
  rw [UInt8.toNat_ofNat']
  omega
@[simp] theorem zrD (b : UInt8) : zT ((b.toNat : Nat) : Int) = some b := by
 unfold zT
 have := UInt8.toNat_lt b
 have h : (decide ((0 : Int) ≤ ((b.toNat : Nat) : Int)) && decide (((b.toNat : Nat) : Int) ≤ 255)) = true := by
  simp only [Bool.and_eq_true, decide_eq_true_eq]; omega
 rw [h]
 simp
abbrev zb {α β : Type} (x : Option α) (f : α → Option β) : Option β := x.bind f
noncomputable def Qs {S X R : Type} (step : S → Option (LO S X R)) (s : S) (k : X → Option R) : Option R :=
 (zf4 step s).bind fun
 | .out x => k x
 | .ret r => some r
def zH {X R : Type} (m : Option (LX X R)) (k : X → Option R) : Option R :=
 m.bind fun
 | .out x => k x
 | .ret r => some r
theorem zfA {S X R : Type} {step : S → Option (LO S X R)} : ∀ {n m : Nat} {s : S} {x : LX X R}, zaM step n s = some x → n ≤ m → zaM step m s = some x
 | 0, _, _, _, h, _ => by cases h
 | n + 1, 0, _, _, _, hm => by omega
 | n + 1, m + 1, s, x, h, hm => by
  simp only [zaM] at h ⊢
  split at h
  ·cases h
  ·exact zfA h (by omega)
  ·exact h
  ·exact h
theorem ze0 {S X R : Type} {step : S → Option (LO S X R)} {s : S} {x : LX X R} {n : Nat} (h : zaM step n s = some x) : zf4 step s = some x := by
 have hx : ∃ n x, zaM step n s = some x := ⟨n, x, h⟩
 unfold zf4
 rw [dif_pos hx]
 have h1 := hx.choose_spec.choose_spec
 have h2 := zfA h (Nat.le_max_left n hx.choose)
 have h3 := zfA h1 (Nat.le_max_right n hx.choose)
 rw [h2] at h3
 exact h3.symm
theorem zkD {S X R : Type} {step : S → Option (LO S X R)} (Inv : S → Prop) (μ : S → Nat) (r : LX X R)
  (h : ∀ s, Inv s → (∃ s', step s = some (.again s') ∧ Inv s' ∧ μ s' < μ s) ∨ (∃ x, step s = some (.out x) ∧ r = .out x) ∨ (∃ y, step s = some (.ret y) ∧ r = .ret y)) {s : S} (hs : Inv s) : zf4 step s = some r := by
 have key : ∀ (m : Nat) (s : S), μ s < m → Inv s → zaM step m s = some r := by
  intro m
  induction m with
  | zero => intro s h; omega
  | succ m ih =>
   intro s hm hs
   simp only [zaM]
   rcases h s hs with ⟨s', h1, h2, h3⟩ | ⟨x, h1, h2⟩ | ⟨y, h1, h2⟩
   ·rw [h1]; exact ih s' (by omega) h2
   ·rw [h1, h2]
   ·rw [h1, h2]
 exact ze0 (key (μ s + 1) s (by omega) hs)
theorem zkE {S X R : Type} {step : S → Option (LO S X R)} {s : S} {k : X → Option R} {x : X} (h : zf4 step s = some (.out x)) : Qs step s k = k x := by
 unfold Qs; rw [h]; rfl
theorem zow {S X R : Type} {step : S → Option (LO S X R)} {s : S} {k : X → Option R} {r : R} (h : zf4 step s = some (.ret r)) : Qs step s k = some r := by
 unfold Qs; rw [h]; rfl
@[simp] theorem Zr {X R : Type} (x : X) (k : X → Option R) : zH (some (.out x)) k = k x := rfl
@[simp] theorem zrk {X R : Type} (r : R) (k : X → Option R) : zH (some (.ret r)) k = some r := rfl
@[simp] theorem QZ {R : Type} (x : Option R) : need true x = x := rfl
@[simp] theorem zdI {α : Type} (x : Option α) (d : α) : zx true x d = x := rfl
@[simp] theorem zlt {α : Type} (x : Option α) (d : α) : zx false x d = some d := rfl
theorem zfH {R : Type} {b : Bool} (h : b = true) (x : Option R) : need b x = x := by rw [h]; rfl
def LX.go {X R : Type} (r : LX X R) (k : X → Option R) : Option R := match r with | .out x => k x | .ret y => some y
@[simp] theorem zrM {X R : Type} (x : X) (k : X → Option R) : (LX.out x : LX X R).go k = k x := rfl
@[simp] theorem go_ret {X R : Type} (y : R) (k : X → Option R) : (LX.ret y : LX X R).go k = some y := rfl
theorem zjc {S X R : Type} {step : S → Option (LO S X R)} {s : S} {k : X → Option R} {r : LX X R} (h : zf4 step s = some r) : Qs step s k = r.go k := by
 unfold Qs; rw [h]; cases r <;> rfl
theorem zlD {α : Type} {l : List α} {i : Nat} (h : i < l.length) : geti l (i : Int) = some l[i] := by
 unfold geti
 have h0 : decide ((0 : Int) ≤ (i : Int)) = true := by simp
 rw [h0]
 simp [h]
theorem zlf {n : Int} (h1 : -9223372036854775808 ≤ n) (h2 : n ≤ 9223372036854775807) : IntKind.i64.wrap n = n := IntWalk.i64_in n ⟨h1, h2⟩
end Go.Lv

namespace Go.Proofs
def Cl.cleanS : List UInt8 → List UInt8
 | [] => []
 | 13 :: 10 :: r => 10 :: Cl.cleanS r
 | c :: r => bif c == 0 then 239 :: 191 :: 189 :: Cl.cleanS r else bif c == 12 || c == 13 then 10 :: Cl.cleanS r else c :: Cl.cleanS r
end Go.Proofs
namespace Go.Lv
def zgH (s : Str) : Option (Str × Int) := some (if 4000 < s.length then ([], 28) else (Proofs.Cl.cleanS s, 0))
def short (l : Str) : Bool := decide (l.length < 4294967281)
def zjM (l : Str) : Bool := l.all fun b => decide (b.toNat < 128)
def zeT (x : Str × Str) : Option Int := need (short x.1) (some (Lib.index x.1 x.2))
def cutF (x : Str × Str) : Option (Str × Str × Bool) := need (short x.1) (some (Lib.cut x.1 x.2))
def zhx (x : Str × Str) : Option Str := need (short x.2 && zjM x.2) (some (Lib.trimLeftS x.1 x.2))
def zej (x : Str × Str) : Option Str := match x.2 with
 | [c] => need (decide (c.toNat < 128) && short x.1) (some (Lib.trimRightB x.1 c))
 | _ => none
def zcm (x : Str × Str) : Option Int := need (short x.1 && short x.2 && zjM x.1 && zjM x.2) (some (Lib.indexAny x.1 x.2))
def i64B (n : Int) : Bool := decide (-9223372036854775808 ≤ n) && decide (n ≤ 9223372036854775807)
def zdg (x : Int × Int) : Option Str := need (decide (x.2 = 10) && i64B x.1) (some (Lib.itoa x.1))
def zbR (x : (Int × Int) × Str) : Option Str := need (decide (x.1.2 = 10) && decide (0 ≤ x.1.1) && decide (x.1.1 ≤ 9223372036854775807) && short x.2) (some (x.2 ++ Lib.decDigits x.1.1.toNat))
def hexD (n : Nat) : UInt8 := UInt8.ofNat (if n < 10 then 48 + n else 87 + n)
def hexS (n : Nat) : Str := if n < 16 then [hexD n] else [hexD (n / 16), hexD (n % 16)]
def zdD (x : (Int × Int) × Str) : Option Str := need (decide (x.1.2 = 16) && decide (0 ≤ x.1.1) && decide (x.1.1 < 256) && short x.2) (some (x.2 ++ hexS x.1.1.toNat))
end Go.Lv

namespace Go.Lv
def zet (x : Str × Int) : Option Int := some (Lib.indexByte x.1 x.2.toNat.toUInt8)
section
variable {I : Ip} {P : Program}
theorem zkB {D : Nat → Prop} {w : World} {u v : Value} (h : RepP D w (.at u) v) : v = u := by cases h; rfl
theorem zfB {D : Nat → Prop} {w : World} {l : List UInt8} {v : Value} (h : RepP D w (.str l) v) : v = .string ⟨l.toArray⟩ := by cases h; rfl
theorem znR {f : FuncId} {fn : Go.Func} (hf : P.funcs[f]? = some fn) (hn : (fn.name == "runtime.NumGoroutine") = false) (hb : fn.body.isSome = true)
  (h : ∀ (s : ByteArray) (c : Int) (w : World), Calls P f #[.string s, .int .u8 c] w fun e w' => e = .returned (.int .i64 (Lib.indexByte s.data.toList c.toNat.toUInt8)) ∧ w' = w) :
  zy P (⟨f, ⟨[.str, .int .u8], []⟩, [], ⟨[.int .i64], []⟩, 0, zet⟩ : Con I) where
 wf := rfl
 ok := fun x y hxy ρ nx _ _ _ => by
  obtain ⟨l, c⟩ := x
  cases hxy
  refine ⟨⟨fn, hf, hn, hb⟩, fun ι get w N vs hR _ _ ha _ => ?_⟩
  obtain ⟨hs, ha⟩ := ha
  obtain ⟨u0, hu0, _, hr0⟩ := ha 0 _ rfl
  obtain ⟨u1, hu1, _, hr1⟩ := ha 1 _ rfl
  have e0 : u0 = .string ⟨l.toArray⟩ := zfB hr0
  have e1 : u1 = .int .u8 c := zkB hr1
  subst e0; subst e1
  have hv : vs = #[.string ⟨l.toArray⟩, .int .u8 c] := by
   have hs : vs.size = 2 := hs
   apply Array.ext
   ·simp [hs]
   ·intro i hi hi'
    have : i = 0 ∨ i = 1 := by omega
    rcases this with rfl | rfl
    ·exact (Array.getElem?_eq_some_iff.1 hu0).2
    ·exact (Array.getElem?_eq_some_iff.1 hu1).2
  subst hv
  refine (h ⟨l.toArray⟩ c w).mono ?_
  rintro e w' ⟨rfl, rfl⟩
  refine ⟨_, rfl, qI hR ⟨rfl, ?_⟩⟩
  exact .at _ rfl
end
end Go.Lv

namespace Go.Lv
inductive All2 {α β : Type} (R : α → β → Prop) : List α → List β → Prop where
 | nil : All2 R [] []
 | cons {a : α} {b : β} {l : List α} {m : List β} (h : R a b) (t : All2 R l m) : All2 R (a :: l) (b :: m)
section
end
end Go.Lv

namespace Go.Lv
structure zrL (bk : {H : Type} → DataW H → Nat) : Prop where
 one : ∀ {H : Type} (d : DataW H), 1 ≤ bk d
 str : ∀ {H : Type} (l : List UInt8), bk (DataW.lit (H := H) (.string l)) = l.length + 1
 slice : ∀ {H : Type} (a b : List (DataW H)), (a.map bk).sum + 1 ≤ bk (.slice a b)
 agg : ∀ {H : Type} (a : List (DataW H)), (a.map bk).sum + 1 ≤ bk (.agg a)
structure IpRd (P : Program) (I : Ip) (G : Nat → Prop) : Prop where
 int : ∀ t k, G t → P.underlying t = some (.int k) → ∀ n, k.min ≤ n → n ≤ k.max → ∃ x : I.C t, I.full t x = [.at (.int k n)]
 bool : ∀ t, G t → P.underlying t = some .bool → ∀ b, ∃ x : I.C t, I.full t x = [.at (.bool b)]
 str : ∀ t, G t → P.underlying t = some .string → ∀ l, ∃ x : I.C t, I.full t x = [.str l]
 sl : ∀ t e, G t → P.underlying t = some (.slice e) → G e ∧ 0 < P.cellsOf e ∧ ∀ l : List (I.C e), ∃ x : I.C t, I.full t x = [.sl (l.map (I.full e))]
 st : ∀ t fs, G t → P.underlying t = some (.struct fs) → (∀ f ∈ fs.toList, G f.type) ∧ (∀ (i : Nat) f, fs.toList[i]? = some f → f.offset = ((fs.toList.take i).map fun f => P.cellsOf f.type).sum) ∧ P.cellsOf t = (fs.toList.map fun f => P.cellsOf f.type).sum ∧
  ∀ pvs : List (List PV), All2 (fun (f : Field) p => ∃ y : I.C f.type, I.full f.type y = p) fs.toList pvs → ∃ x : I.C t, I.full t x = pvs.flatten
 only : ∀ t u, G t → P.underlying t = some u → (∃ k, u = .int k) ∨ u = .bool ∨ u = .string ∨ (∃ e, u = .slice e) ∨ (∃ fs, u = .struct fs)
theorem All2.len {α β : Type} {R : α → β → Prop} {l : List α} {m : List β} (h : All2 R l m) : l.length = m.length := by
 induction h with
 | nil => rfl
 | cons _ _ ih => simp [ih]
theorem All2.at {α β : Type} {R : α → β → Prop} {l : List α} {m : List β} (h : All2 R l m) : ∀ {i : Nat} {a : α}, l[i]? = some a → ∃ b, m[i]? = some b ∧ R a b := by
 induction h with
 | nil => intro i a h; cases h
 | cons h t ih =>
  intro i a hi
  cases i with
  | zero => cases hi; exact ⟨_, rfl, h⟩
  | succ i => exact ih hi
def zmR (w : World) (cs : List Value) (pvs : List PV) : Prop := cs.length = pvs.length ∧ ∀ (j : Nat) v pv, cs[j]? = some v → pvs[j]? = some pv → RepP (fun b => b < w.heap.size) w pv v ∧ v.oneCell' = true
theorem zmR.one {w : World} {v : Value} {pv : PV} (h : RepP (fun b => b < w.heap.size) w pv v) (ho : v.oneCell' = true) : zmR w [v] [pv] := by
 refine ⟨rfl, fun j u q hu hq => ?_⟩
 cases j with
 | zero => cases hu; cases hq; exact ⟨h, ho⟩
 | succ j => cases hu
theorem zmR.append {w : World} {a b : List Value} {p q : List PV} (h : zmR w a p) (g : zmR w b q) : zmR w (a ++ b) (p ++ q) := by
 refine ⟨by simp [h.1, g.1], fun j v pv hv hp => ?_⟩
 by_cases hj : j < a.length
 ·rw [List.getElem?_append_left hj] at hv
  rw [List.getElem?_append_left (by rw [← h.1]; exact hj)] at hp
  exact h.2 j v pv hv hp
 ·rw [List.getElem?_append_right (by omega)] at hv
  rw [List.getElem?_append_right (by have := h.1; omega), ← h.1] at hp
  exact g.2 _ v pv hv hp
section
end
end Go.Lv

namespace Go.Lv
open Go.RowKit Go.ChangeShapes Go.WideShapes
section
variable {P : Program} {I : Ip}
def noA : Asg := fun _ => .free
theorem zpj {W : World} : zby noA W [] #[] := ⟨rfl, fun j t h => by cases h⟩
theorem zop {con : Con I} (hc : zy P con) (hi : con.inS.objs = []) (ho : con.outS = ⟨[.bool], []⟩) (hk : con.k = 0) {x : (con.inS.sl I).T} {y : (con.outS.sl I).T} (hF : con.F x = some y) {b : Bool} (hy : ((con.outS.sl I).enc y).1 = [.c (.bool b)]) (hin : ((con.inS.sl I).enc x).2 = []) (hyo : ((con.outS.sl I).enc y).2 = [])
  {W : World} {vs : Array Value} (hg : Glob (Dom noA W) W) (hargs : zby noA W (((con.inS.sl I).enc x).1.map (trT (fun i => i) (lk []))) vs) :
  Calls P con.f vs W fun e W' => e = .returned (.bool b) ∧ Below W.heap.size W W' := by
 have h := hc.ok x y hF (fun i => i) 0 (fun i j hi' => by rw [hi] at hi'; simp at hi') (fun i hi' => by rw [hi] at hi'; simp at hi') (fun j => by rw [hi]; simp)
 rw [hin, hyo, hy, hi, hk] at h
 refine (h.ok noA (fun _ => none) W 0 vs ⟨fun id o ho => by (cases ho), fun id _ => .inl rfl, fun i j b k k' h => by (cases h), hg⟩ (fun id _ => rfl) (fun j _ => rfl) hargs (fun p hp => by cases hp)).mono fun e W' ⟨v, he, ι', h1, h2, h3, h4⟩ => ?_
 have hv : RepP (Dom ι' W') W' (.at (.bool b)) v := h2.2
 cases hv
 exact ⟨he, h3.os, h3.tape, h3.output, h3.size, fun k hk => h3.keep k ⟨hk, fun id n e => by cases e⟩⟩
theorem zpG {H : Type} {enc : TypeId × Value → H} {f : Func} {s : ChangeSpec} {apart fresh handsOn again : Bool} {W W' : World} {args : Array Value} {ds gs : List (DataW H)} {before pa : List MemPlace} {tb : TypeId}
  (hW : DataW.Whole enc P f.params.toList s.vars apart W args.toList ds gs before) (hvars : s.vars = []) (hrt : f.resultTypes = #[tb]) (htb : P.underlying tb = some .bool)
  (hres : (s.fn H (ds ++ gs)).results = [.lit (.bool true)]) (hvs : (s.fn H (ds ++ gs)).vars = [])
  (hargs : ∀ sp : Nat → Bool, (∀ p ∈ before, sp p.block = true) → DataW.TrodAll enc P W' 0 sp true f.params.toList args.toList (s.fn H (ds ++ gs)).args pa)
  (hps : before = pa) (hb : Below W.heap.size W W') : s.post enc P f apart fresh handsOn again W args (.bool true) W' := by
 have hlt : ∀ p ∈ before, p.block < W.heap.size := fun p hp => hW.lt p hp
 have hold : ∀ p ∈ before, (fun b => decide (b < W.heap.size)) p.block = true := fun p hp => by simpa using hlt p hp
 have hr : ∀ (b : Nat) (sp : Nat → Bool) (hd : Bool), DataW.TrodAll enc P W' b sp hd f.resultTypes.toList ((Value.bool true).resultList f.resultTypes.size) (s.fn H (ds ++ gs)).results [] := by
  intro b sp hd
  rw [hrt, hres]
  exact trodAll_cons_mk (shut_bool htb _) trodAll_mk0
 have hv : ∀ sp : Nat → Bool, DataW.TrodVars enc P W' sp s.vars (s.fn H (ds ++ gs)).vars [] := by
  intro sp
  rw [hvars, hvs]
  exact rfl
 refine ⟨ds, gs, before, [], pa, [], hW, hr _ _ _, hargs _ hold, hv _, World.keptBut_mono (fun p hp => ⟨hp, .inr (.inl (by rw [← hps]; exact hp))⟩) (hb.frame (· ∈ before)), fun _ => ?_⟩
 obtain ⟨_, _, _, _, _, hz, hn⟩ := hW
 refine ⟨ok_one hrt rfl (okWide_bool_mk htb _), _, _, ([] ++ pa) ++ [], ⟨[] ++ pa, [], trodAll_append (hargs _ (fun _ _ => rfl)) (hr _ _ _), hv _, rfl, ?_, ?_⟩, ?_⟩
 ·intro b off hp
  have hin : MemPlace.cell b off ∈ before := by rw [hps]; simpa using hp
  rw [hb.frozen (hlt _ hin)]
  exact hz b off hin
 ·intro ha
  have := hn ha
  rw [hps] at this
  simpa using this
 ·intro p hp _
  rw [hps]
  simpa using hp
end
end Go.Lv

namespace Go.Lv
def Le {α : Type} (a b : Option α) : Prop := ∀ y, a = some y → b = some y
theorem Le.rfl {α : Type} {a : Option α} : Le a a := fun _ h => h
theorem Le.none {α : Type} {b : Option α} : Le none b := fun _ h => by cases h
theorem Le.bind {α β : Type} {a a' : Option α} {f f' : α → Option β} (h : Le a a') (hf : ∀ x, Le (f x) (f' x)) : Le (zb a f) (zb a' f') := by
 intro y hy
 cases a with
 | none => cases hy
 | some x => rw [h x _root_.rfl]; exact hf x y hy
theorem Le.bif {α : Type} {c : Bool} {a a' b b' : Option α} (h : Le a a') (h' : Le b b') : Le (bif c then a else b) (bif c then a' else b') := by
 cases c
 ·exact h'
 ·exact h
theorem Le.need {α : Type} {c : Bool} {a a' : Option α} (h : Le a a') : Le (Lv.need c a) (Lv.need c a') := by
 cases c
 ·exact Le.rfl
 ·exact h
theorem Le.cond {α : Type} {c : Bool} {a a' : Option α} {d : α} (h : Le a a') : Le (zx c a d) (zx c a' d) := by
 cases c
 ·exact Le.rfl
 ·exact h
theorem Le.map {α β : Type} {a a' : Option α} {f : α → β} (h : Le a a') : Le (Option.map f a) (Option.map f a') := by
 intro y hy
 cases a with
 | none => cases hy
 | some x => rw [h x _root_.rfl]; exact hy
theorem Le.join {X R : Type} {a a' : Option (LX X R)} {k k' : X → Option R} (h : Le a a') (hk : ∀ x, Le (k x) (k' x)) : Le (zH a k) (zH a' k') := by
 intro y hy
 cases a with
 | none => cases hy
 | some x =>
  rw [h x _root_.rfl]
  cases x with
  | out x => exact hk x y hy
  | ret r => exact hy
def za0 (n : Nat) {S X R : Type} (step : S → Option (LO S X R)) (s : S) (k : X → Option R) : Option R :=
 match zaM step n s with
 | some (.out x) => k x
 | some (.ret r) => some r
 | none => none
theorem zmr {S X R : Type} {step step' : S → Option (LO S X R)} (h : ∀ s, Le (step s) (step' s)) : ∀ (n : Nat) (s : S), Le (zaM step n s) (zaM step' n s)
 | 0, _ => Le.none
 | n + 1, s => by
  intro y hy
  simp only [zaM] at hy ⊢
  cases hs : step s with
  | none => rw [hs] at hy; cases hy
  | some o =>
   rw [hs] at hy
   rw [h s o hs]
   cases o with
   | again s' => exact zmr h n s' y hy
   | out x => exact hy
   | ret r => exact hy
theorem Le.loop {n : Nat} {S X R : Type} {step step' : S → Option (LO S X R)} {s : S} {k k' : X → Option R} (h : ∀ s, Le (step s) (step' s)) (hk : ∀ x, Le (k x) (k' x)) : Le (za0 n step s k) (Qs step' s k') := by
 intro y hy
 unfold za0 at hy
 cases hi : zaM step n s with
 | none => rw [hi] at hy; cases hy
 | some x =>
  rw [hi] at hy
  rw [zjc (ze0 (zmr h n s x hi))]
  cases x with
  | out x => exact hk x y hy
  | ret r => exact hy
end Go.Lv

namespace Go.Lv
variable {I : Ip}
theorem zq4 {s : Shp I} {r : VL I} {n : Nat} (h : ∀ x, (r.enc x).length = n) : ∀ x, ((VL.cons s r).enc x).length = n + 1 := by
 obtain ⟨T, u, d, e, m⟩ := s
 obtain ⟨T', u', d', e', m'⟩ := r
 cases u <;> cases u' <;> intro x <;> exact congrArg (· + 1) (h _)
theorem zql : ∀ (l : List Sh) (x : (vlOf I l).T), ((vlOf I l).enc x).length = l.length
 | [], _ => rfl
 | s :: l, x => zq4 (s := s.shp I) (zql l) x
theorem zrw (s : StSh) : ∀ x : (s.sl I).T, ((s.sl I).enc x).1.length = s.vals.length := by
 have h := zql (I := I) s.vals
 unfold StSh.sl
 revert h
 generalize vlOf I s.vals = v
 generalize olOf I s.objs = o
 obtain ⟨T, u, d, e, m⟩ := v
 obtain ⟨T', u', d', e', m'⟩ := o
 cases u <;> cases u' <;> intro h x <;> exact h _
theorem Zc {Q : Con I → Prop} : ∀ c ∈ ([] : List (Con I)), Q c := fun c h => by cases h
theorem memC {Q : Con I → Prop} {a : Con I} {l : List (Con I)} (h : Q a) (g : ∀ c ∈ l, Q c) : ∀ c ∈ a :: l, Q c := fun c hc => by
 rcases List.mem_cons.1 hc with rfl | hc
 ·exact h
 ·exact g c hc
def chk (con : Con I) (A : Env0 I) (f : Go.Func) : Bool := zhX con && (f.body.isSome && (!(f.name == "runtime.NumGoroutine") && (A.p == con.inS.objs.length && Nat.ble con.inS.vals.length f.ntmps)))
theorem okC0 {P : Program} {T : TT} {fk : List (Nat × List Kd)} (hmix : P.follows .mixedOrders = true) (hI : IpOK P I) (hT : TOK P T fk) {con : Con I} {f : Go.Func} {A : Env0 I} {exS : StSh} {c : Code} {rs : List ResultVar} (hb : c = match f.body with | some c => c | none => .skip) (hr : rs = f.results.toList)
  (hS : ∀ c ∈ A.S, zy P c) (hf : P.funcs[con.f]? = some f) (h : chk con A f = true) (he : ∀ x, evF2 A T fk f.ntmps rs c con exS x = con.F x) : zy P con := by
 unfold chk at h
 simp only [Bool.and_eq_true] at h
 obtain ⟨h1, h2, h3, h4, h5⟩ := h
 refine ziT (exS := exS) hmix hI hS h1 hT hf ?_ ?_ (by simpa using h3) (beq_iff_eq.1 h4) (fun x => by rw [zrw]; exact Nat.le_of_ble_eq_true h5) (fun x y h => (he x).trans h)
 ·rw [hb]
  cases hb' : f.body with
  | none => rw [hb'] at h2; cases h2
  | some c => rfl
 ·rw [hr]
end Go.Lv
