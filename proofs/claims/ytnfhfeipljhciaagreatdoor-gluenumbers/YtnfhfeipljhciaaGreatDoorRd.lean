/- Which values may come in. -/
import Derived.Test.YtnfhfeipljhciaaGreatDoorIp
import Derived.Test.YtnfhfeipljhciaaGreatDoorLf
namespace Go.Lv.VT
set_option maxRecDepth 100000
open Go.Proofs
def gd : List Nat := [2, 3, 4, 5, 9, 12, 21, 26, 41, 51, 59, 86, 89, 100, 136, 154, 171, 181]
theorem zmu : Tryz.prog.underlying 2 = some (.int .i64) := by kernel_rfl
theorem zn2 : Tryz.prog.underlying 3 = some (.int .i64) := by kernel_rfl
theorem zn3 : Tryz.prog.underlying 4 = some (.bool) := by kernel_rfl
theorem zn4 : Tryz.prog.underlying 5 = some (.int .u8) := by kernel_rfl
theorem zpR : Tryz.prog.underlying 9 = some (.string) := by kernel_rfl
theorem ziU : Tryz.prog.underlying 12 = some (.int .u64) := by kernel_rfl
theorem ziV : Tryz.prog.underlying 21 = some (.int .i32) := by kernel_rfl
theorem ziW : Tryz.prog.underlying 26 = some (.int .i64) := by kernel_rfl
theorem ziX : Tryz.prog.underlying 41 = some (.slice 51) := by kernel_rfl
theorem zlB : ∃ fs, Tryz.prog.underlying 51 = some (.struct fs) := ⟨(match Tryz.prog.underlying 51 with | some (.struct fs) => fs | _ => #[]), by kernel_rfl⟩
theorem zst : zkG Tryz.prog 51 = [(5, 0), (9, 1), (2, 2), (9, 3), (4, 4)] := by kernel_rfl
theorem ziY : Tryz.prog.underlying 59 = some (.slice 5) := by kernel_rfl
theorem ziZ : Tryz.prog.underlying 86 = some (.slice 89) := by kernel_rfl
theorem zlC : ∃ fs, Tryz.prog.underlying 89 = some (.struct fs) := ⟨(match Tryz.prog.underlying 89 with | some (.struct fs) => fs | _ => #[]), by kernel_rfl⟩
theorem zsu : zkG Tryz.prog 89 = [(3, 0), (3, 1)] := by kernel_rfl
theorem zhJ : ∃ fs, Tryz.prog.underlying 100 = some (.struct fs) := ⟨(match Tryz.prog.underlying 100 with | some (.struct fs) => fs | _ => #[]), by kernel_rfl⟩
theorem zrG : zkG Tryz.prog 100 = [(9, 0), (3, 1)] := by kernel_rfl
theorem zfP : Tryz.prog.underlying 136 = some (.slice 9) := by kernel_rfl
theorem zfQ : Tryz.prog.underlying 154 = some (.int .u64) := by kernel_rfl
theorem zfR : Tryz.prog.underlying 171 = some (.int .u64) := by kernel_rfl
theorem zfS : Tryz.prog.underlying 181 = some (.int .u32) := by kernel_rfl
theorem ipRd : IpRd Tryz.prog I (fun t => t ∈ gd) where
 int := fun t k hg hu n h1 h2 => by
  simp only [gd, List.mem_cons, List.not_mem_nil, or_false] at hg
  rcases hg with rfl | rfl | rfl | rfl | rfl | rfl | rfl | rfl | rfl | rfl | rfl | rfl | rfl | rfl | rfl | rfl | rfl | rfl
  ·rw [zmu] at hu; cases hu; exact ⟨(n : Int), rfl⟩
  ·rw [zn2] at hu; cases hu; exact ⟨(n : Int), rfl⟩
  ·rw [zn3] at hu; cases hu
  ·rw [zn4] at hu; cases hu; exact ⟨UInt8.ofNat n.toNat, zsR h1 h2⟩
  ·rw [zpR] at hu; cases hu
  ·rw [ziU] at hu; cases hu; exact ⟨(n : Int), rfl⟩
  ·rw [ziV] at hu; cases hu; exact ⟨(n : Int), rfl⟩
  ·rw [ziW] at hu; cases hu; exact ⟨(n : Int), rfl⟩
  ·rw [ziX] at hu; cases hu
  ·obtain ⟨fs, e⟩ := zlB; rw [e] at hu; cases hu
  ·rw [ziY] at hu; cases hu
  ·rw [ziZ] at hu; cases hu
  ·obtain ⟨fs, e⟩ := zlC; rw [e] at hu; cases hu
  ·obtain ⟨fs, e⟩ := zhJ; rw [e] at hu; cases hu
  ·rw [zfP] at hu; cases hu
  ·rw [zfQ] at hu; cases hu; exact ⟨(n : Int), rfl⟩
  ·rw [zfR] at hu; cases hu; exact ⟨(n : Int), rfl⟩
  ·rw [zfS] at hu; cases hu; exact ⟨(n : Int), rfl⟩
 bool := fun t hg hu b => by
  simp only [gd, List.mem_cons, List.not_mem_nil, or_false] at hg
  rcases hg with rfl | rfl | rfl | rfl | rfl | rfl | rfl | rfl | rfl | rfl | rfl | rfl | rfl | rfl | rfl | rfl | rfl | rfl
  ·rw [zmu] at hu; cases hu
  ·rw [zn2] at hu; cases hu
  ·exact ⟨(b : Bool), rfl⟩
  ·rw [zn4] at hu; cases hu
  ·rw [zpR] at hu; cases hu
  ·rw [ziU] at hu; cases hu
  ·rw [ziV] at hu; cases hu
  ·rw [ziW] at hu; cases hu
  ·rw [ziX] at hu; cases hu
  ·obtain ⟨fs, e⟩ := zlB; rw [e] at hu; cases hu
  ·rw [ziY] at hu; cases hu
  ·rw [ziZ] at hu; cases hu
  ·obtain ⟨fs, e⟩ := zlC; rw [e] at hu; cases hu
  ·obtain ⟨fs, e⟩ := zhJ; rw [e] at hu; cases hu
  ·rw [zfP] at hu; cases hu
  ·rw [zfQ] at hu; cases hu
  ·rw [zfR] at hu; cases hu
  ·rw [zfS] at hu; cases hu
 str := fun t hg hu l => by
  simp only [gd, List.mem_cons, List.not_mem_nil, or_false] at hg
  rcases hg with rfl | rfl | rfl | rfl | rfl | rfl | rfl | rfl | rfl | rfl | rfl | rfl | rfl | rfl | rfl | rfl | rfl | rfl
  ·rw [zmu] at hu; cases hu
  ·rw [zn2] at hu; cases hu
  ·rw [zn3] at hu; cases hu
  ·rw [zn4] at hu; cases hu
  ·exact ⟨(l : Str), rfl⟩
  ·rw [ziU] at hu; cases hu
  ·rw [ziV] at hu; cases hu
  ·rw [ziW] at hu; cases hu
  ·rw [ziX] at hu; cases hu
  ·obtain ⟨fs, e⟩ := zlB; rw [e] at hu; cases hu
  ·rw [ziY] at hu; cases hu
  ·rw [ziZ] at hu; cases hu
  ·obtain ⟨fs, e⟩ := zlC; rw [e] at hu; cases hu
  ·obtain ⟨fs, e⟩ := zhJ; rw [e] at hu; cases hu
  ·rw [zfP] at hu; cases hu
  ·rw [zfQ] at hu; cases hu
  ·rw [zfR] at hu; cases hu
  ·rw [zfS] at hu; cases hu
 sl := fun t e hg hu => by
  simp only [gd, List.mem_cons, List.not_mem_nil, or_false] at hg
  rcases hg with rfl | rfl | rfl | rfl | rfl | rfl | rfl | rfl | rfl | rfl | rfl | rfl | rfl | rfl | rfl | rfl | rfl | rfl
  ·rw [zmu] at hu; cases hu
  ·rw [zn2] at hu; cases hu
  ·rw [zn3] at hu; cases hu
  ·rw [zn4] at hu; cases hu
  ·rw [zpR] at hu; cases hu
  ·rw [ziU] at hu; cases hu
  ·rw [ziV] at hu; cases hu
  ·rw [ziW] at hu; cases hu
  ·rw [ziX] at hu; cases hu; exact ⟨by simp [gd], Nat.lt_of_lt_of_eq (by decide : 0 < 5) (by kernel_rfl : 5 = Tryz.prog.cellsOf 51), fun l => ⟨(l : List zh), rfl⟩⟩
  ·obtain ⟨fs, e⟩ := zlB; rw [e] at hu; cases hu
  ·rw [ziY] at hu; cases hu; exact ⟨by simp [gd], Nat.lt_of_lt_of_eq (by decide : 0 < 1) (by kernel_rfl : 1 = Tryz.prog.cellsOf 5), fun l => ⟨(l : List UInt8), rfl⟩⟩
  ·rw [ziZ] at hu; cases hu; exact ⟨by simp [gd], Nat.lt_of_lt_of_eq (by decide : 0 < 2) (by kernel_rfl : 2 = Tryz.prog.cellsOf 89), fun l => ⟨(l : List zo), rfl⟩⟩
  ·obtain ⟨fs, e⟩ := zlC; rw [e] at hu; cases hu
  ·obtain ⟨fs, e⟩ := zhJ; rw [e] at hu; cases hu
  ·rw [zfP] at hu; cases hu; exact ⟨by simp [gd], Nat.lt_of_lt_of_eq (by decide : 0 < 1) (by kernel_rfl : 1 = Tryz.prog.cellsOf 9), fun l => ⟨(l : List Str), rfl⟩⟩
  ·rw [zfQ] at hu; cases hu
  ·rw [zfR] at hu; cases hu
  ·rw [zfS] at hu; cases hu
 st := fun t fs hg hu => by
  simp only [gd, List.mem_cons, List.not_mem_nil, or_false] at hg
  rcases hg with rfl | rfl | rfl | rfl | rfl | rfl | rfl | rfl | rfl | rfl | rfl | rfl | rfl | rfl | rfl | rfl | rfl | rfl
  ·rw [zmu] at hu; cases hu
  ·rw [zn2] at hu; cases hu
  ·rw [zn3] at hu; cases hu
  ·rw [zn4] at hu; cases hu
  ·rw [zpR] at hu; cases hu
  ·rw [ziU] at hu; cases hu
  ·rw [ziV] at hu; cases hu
  ·rw [ziW] at hu; cases hu
  ·rw [ziX] at hu; cases hu
  ·refine zsb hu zst (by simp [gd]) (by kernel_rfl) (by kernel_rfl) (fun pvs h0 => ?_)
   obtain ⟨_, pvs, rfl, ⟨y0, rfl⟩, h1⟩ := zak h0
   obtain ⟨_, pvs, rfl, ⟨y1, rfl⟩, h2⟩ := zak h1
   obtain ⟨_, pvs, rfl, ⟨y2, rfl⟩, h3⟩ := zak h2
   obtain ⟨_, pvs, rfl, ⟨y3, rfl⟩, h4⟩ := zak h3
   obtain ⟨_, pvs, rfl, ⟨y4, rfl⟩, h5⟩ := zak h4
   rw [zi4 h5]
   exact ⟨(⟨((UInt8.toNat y0 : Nat) : Int), y1, y2, y3, y4⟩ : zh), rfl⟩
  ·rw [ziY] at hu; cases hu
  ·rw [ziZ] at hu; cases hu
  ·refine zsb hu zsu (by simp [gd]) (by kernel_rfl) (by kernel_rfl) (fun pvs h0 => ?_)
   obtain ⟨_, pvs, rfl, ⟨y0, rfl⟩, h1⟩ := zak h0
   obtain ⟨_, pvs, rfl, ⟨y1, rfl⟩, h2⟩ := zak h1
   rw [zi4 h2]
   exact ⟨(⟨y0, y1⟩ : zo), rfl⟩
  ·refine zsb hu zrG (by simp [gd]) (by kernel_rfl) (by kernel_rfl) (fun pvs h0 => ?_)
   obtain ⟨_, pvs, rfl, ⟨y0, rfl⟩, h1⟩ := zak h0
   obtain ⟨_, pvs, rfl, ⟨y1, rfl⟩, h2⟩ := zak h1
   rw [zi4 h2]
   exact ⟨(⟨y0, y1⟩ : za), rfl⟩
  ·rw [zfP] at hu; cases hu
  ·rw [zfQ] at hu; cases hu
  ·rw [zfR] at hu; cases hu
  ·rw [zfS] at hu; cases hu
 only := fun t u hg hu => by
  simp only [gd, List.mem_cons, List.not_mem_nil, or_false] at hg
  rcases hg with rfl | rfl | rfl | rfl | rfl | rfl | rfl | rfl | rfl | rfl | rfl | rfl | rfl | rfl | rfl | rfl | rfl | rfl
  ·rw [zmu] at hu; cases hu; exact .inl ⟨_, rfl⟩
  ·rw [zn2] at hu; cases hu; exact .inl ⟨_, rfl⟩
  ·rw [zn3] at hu; cases hu; exact .inr (.inl rfl)
  ·rw [zn4] at hu; cases hu; exact .inl ⟨_, rfl⟩
  ·rw [zpR] at hu; cases hu; exact .inr (.inr (.inl rfl))
  ·rw [ziU] at hu; cases hu; exact .inl ⟨_, rfl⟩
  ·rw [ziV] at hu; cases hu; exact .inl ⟨_, rfl⟩
  ·rw [ziW] at hu; cases hu; exact .inl ⟨_, rfl⟩
  ·rw [ziX] at hu; cases hu; exact .inr (.inr (.inr (.inl ⟨_, rfl⟩)))
  ·obtain ⟨fs, e⟩ := zlB; rw [e] at hu; cases hu; exact .inr (.inr (.inr (.inr ⟨_, rfl⟩)))
  ·rw [ziY] at hu; cases hu; exact .inr (.inr (.inr (.inl ⟨_, rfl⟩)))
  ·rw [ziZ] at hu; cases hu; exact .inr (.inr (.inr (.inl ⟨_, rfl⟩)))
  ·obtain ⟨fs, e⟩ := zlC; rw [e] at hu; cases hu; exact .inr (.inr (.inr (.inr ⟨_, rfl⟩)))
  ·obtain ⟨fs, e⟩ := zhJ; rw [e] at hu; cases hu; exact .inr (.inr (.inr (.inr ⟨_, rfl⟩)))
  ·rw [zfP] at hu; cases hu; exact .inr (.inr (.inr (.inl ⟨_, rfl⟩)))
  ·rw [zfQ] at hu; cases hu; exact .inl ⟨_, rfl⟩
  ·rw [zfR] at hu; cases hu; exact .inl ⟨_, rfl⟩
  ·rw [zfS] at hu; cases hu; exact .inl ⟨_, rfl⟩
end Go.Lv.VT
