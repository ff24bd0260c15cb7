/- Which values may come in. -/
import Derived.Test.YtnfhfeipljhciaaGreatDoorIp
import Derived.Test.YtnfhfeipljhciaaGreatDoorLf
namespace Go.Lv.VT
set_option maxRecDepth 100000
open Go.Proofs
def gd : List Nat := [2, 3, 4, 5, 9, 12, 21, 26, 41, 51, 59, 86, 89, 100, 136, 154, 171, 181]
theorem znS : Tryz.prog.underlying 2 = some (.int .i64) := by kernel_rfl
theorem znT : Tryz.prog.underlying 3 = some (.int .i64) := by kernel_rfl
theorem zpN : Tryz.prog.underlying 4 = some (.bool) := by kernel_rfl
theorem znU : Tryz.prog.underlying 5 = some (.int .u8) := by kernel_rfl
theorem zmh : Tryz.prog.underlying 9 = some (.string) := by kernel_rfl
theorem ziC : Tryz.prog.underlying 12 = some (.int .u64) := by kernel_rfl
theorem ziD : Tryz.prog.underlying 21 = some (.int .i32) := by kernel_rfl
theorem ziE : Tryz.prog.underlying 26 = some (.int .i64) := by kernel_rfl
theorem ziF : Tryz.prog.underlying 41 = some (.slice 51) := by kernel_rfl
theorem zll : ∃ fs, Tryz.prog.underlying 51 = some (.struct fs) := ⟨(match Tryz.prog.underlying 51 with | some (.struct fs) => fs | _ => #[]), by kernel_rfl⟩
theorem zso : zko Tryz.prog 51 = [(5, 0), (9, 1), (2, 2), (9, 3), (4, 4)] := by kernel_rfl
theorem ziG : Tryz.prog.underlying 59 = some (.slice 5) := by kernel_rfl
theorem ziH : Tryz.prog.underlying 86 = some (.slice 89) := by kernel_rfl
theorem zlm : ∃ fs, Tryz.prog.underlying 89 = some (.struct fs) := ⟨(match Tryz.prog.underlying 89 with | some (.struct fs) => fs | _ => #[]), by kernel_rfl⟩
theorem zsp : zko Tryz.prog 89 = [(3, 0), (3, 1)] := by kernel_rfl
theorem zhu : ∃ fs, Tryz.prog.underlying 100 = some (.struct fs) := ⟨(match Tryz.prog.underlying 100 with | some (.struct fs) => fs | _ => #[]), by kernel_rfl⟩
theorem zru : zko Tryz.prog 100 = [(9, 0), (3, 1)] := by kernel_rfl
theorem zfF : Tryz.prog.underlying 136 = some (.slice 9) := by kernel_rfl
theorem zfG : Tryz.prog.underlying 154 = some (.int .u64) := by kernel_rfl
theorem zfH : Tryz.prog.underlying 171 = some (.int .u64) := by kernel_rfl
theorem zfI : Tryz.prog.underlying 181 = some (.int .u32) := by kernel_rfl
theorem ipRd : IpRd Tryz.prog I (fun t => t ∈ gd) where
 int := fun t k hg hu n h1 h2 => by
  simp only [gd, List.mem_cons, List.not_mem_nil, or_false] at hg
  rcases hg with rfl | rfl | rfl | rfl | rfl | rfl | rfl | rfl | rfl | rfl | rfl | rfl | rfl | rfl | rfl | rfl | rfl | rfl
  ·rw [znS] at hu; cases hu; exact ⟨(n : Int), rfl⟩
  ·rw [znT] at hu; cases hu; exact ⟨(n : Int), rfl⟩
  ·rw [zpN] at hu; cases hu
  ·rw [znU] at hu; cases hu; exact ⟨UInt8.ofNat n.toNat, zsU h1 h2⟩
  ·rw [zmh] at hu; cases hu
  ·rw [ziC] at hu; cases hu; exact ⟨(n : Int), rfl⟩
  ·rw [ziD] at hu; cases hu; exact ⟨(n : Int), rfl⟩
  ·rw [ziE] at hu; cases hu; exact ⟨(n : Int), rfl⟩
  ·rw [ziF] at hu; cases hu
  ·obtain ⟨fs, e⟩ := zll; rw [e] at hu; cases hu
  ·rw [ziG] at hu; cases hu
  ·rw [ziH] at hu; cases hu
  ·obtain ⟨fs, e⟩ := zlm; rw [e] at hu; cases hu
  ·obtain ⟨fs, e⟩ := zhu; rw [e] at hu; cases hu
  ·rw [zfF] at hu; cases hu
  ·rw [zfG] at hu; cases hu; exact ⟨(n : Int), rfl⟩
  ·rw [zfH] at hu; cases hu; exact ⟨(n : Int), rfl⟩
  ·rw [zfI] at hu; cases hu; exact ⟨(n : Int), rfl⟩
 bool := fun t hg hu b => by
  simp only [gd, List.mem_cons, List.not_mem_nil, or_false] at hg
  rcases hg with rfl | rfl | rfl | rfl | rfl | rfl | rfl | rfl | rfl | rfl | rfl | rfl | rfl | rfl | rfl | rfl | rfl | rfl
  ·rw [znS] at hu; cases hu
  ·rw [znT] at hu; cases hu
  ·exact ⟨(b : Bool), rfl⟩
  ·rw [znU] at hu; cases hu
  ·rw [zmh] at hu; cases hu
  ·rw [ziC] at hu; cases hu
  ·rw [ziD] at hu; cases hu
  ·rw [ziE] at hu; cases hu
  ·rw [ziF] at hu; cases hu
  ·obtain ⟨fs, e⟩ := zll; rw [e] at hu; cases hu
  ·rw [ziG] at hu; cases hu
  ·rw [ziH] at hu; cases hu
  ·obtain ⟨fs, e⟩ := zlm; rw [e] at hu; cases hu
  ·obtain ⟨fs, e⟩ := zhu; rw [e] at hu; cases hu
  ·rw [zfF] at hu; cases hu
  ·rw [zfG] at hu; cases hu
  ·rw [zfH] at hu; cases hu
  ·rw [zfI] at hu; cases hu
 str := fun t hg hu l => by
  simp only [gd, List.mem_cons, List.not_mem_nil, or_false] at hg
  rcases hg with rfl | rfl | rfl | rfl | rfl | rfl | rfl | rfl | rfl | rfl | rfl | rfl | rfl | rfl | rfl | rfl | rfl | rfl
  ·rw [znS] at hu; cases hu
  ·rw [znT] at hu; cases hu
  ·rw [zpN] at hu; cases hu
  ·rw [znU] at hu; cases hu
  ·exact ⟨(l : Str), rfl⟩
  ·rw [ziC] at hu; cases hu
  ·rw [ziD] at hu; cases hu
  ·rw [ziE] at hu; cases hu
  ·rw [ziF] at hu; cases hu
  ·obtain ⟨fs, e⟩ := zll; rw [e] at hu; cases hu
  ·rw [ziG] at hu; cases hu
  ·rw [ziH] at hu; cases hu
  ·obtain ⟨fs, e⟩ := zlm; rw [e] at hu; cases hu
  ·obtain ⟨fs, e⟩ := zhu; rw [e] at hu; cases hu
  ·rw [zfF] at hu; cases hu
  ·rw [zfG] at hu; cases hu
  ·rw [zfH] at hu; cases hu
  ·rw [zfI] at hu; cases hu
 sl := fun t e hg hu => by
  simp only [gd, List.mem_cons, List.not_mem_nil, or_false] at hg
  rcases hg with rfl | rfl | rfl | rfl | rfl | rfl | rfl | rfl | rfl | rfl | rfl | rfl | rfl | rfl | rfl | rfl | rfl | rfl
  ·rw [znS] at hu; cases hu
  ·rw [znT] at hu; cases hu
  ·rw [zpN] at hu; cases hu
  ·rw [znU] at hu; cases hu
  ·rw [zmh] at hu; cases hu
  ·rw [ziC] at hu; cases hu
  ·rw [ziD] at hu; cases hu
  ·rw [ziE] at hu; cases hu
  ·rw [ziF] at hu; cases hu; exact ⟨by simp [gd], Nat.lt_of_lt_of_eq (by decide : 0 < 5) (by kernel_rfl : 5 = Tryz.prog.cellsOf 51), fun l => ⟨(l : List zh), rfl⟩⟩
  ·obtain ⟨fs, e⟩ := zll; rw [e] at hu; cases hu
  ·rw [ziG] at hu; cases hu; exact ⟨by simp [gd], Nat.lt_of_lt_of_eq (by decide : 0 < 1) (by kernel_rfl : 1 = Tryz.prog.cellsOf 5), fun l => ⟨(l : List UInt8), rfl⟩⟩
  ·rw [ziH] at hu; cases hu; exact ⟨by simp [gd], Nat.lt_of_lt_of_eq (by decide : 0 < 2) (by kernel_rfl : 2 = Tryz.prog.cellsOf 89), fun l => ⟨(l : List zq), rfl⟩⟩
  ·obtain ⟨fs, e⟩ := zlm; rw [e] at hu; cases hu
  ·obtain ⟨fs, e⟩ := zhu; rw [e] at hu; cases hu
  ·rw [zfF] at hu; cases hu; exact ⟨by simp [gd], Nat.lt_of_lt_of_eq (by decide : 0 < 1) (by kernel_rfl : 1 = Tryz.prog.cellsOf 9), fun l => ⟨(l : List Str), rfl⟩⟩
  ·rw [zfG] at hu; cases hu
  ·rw [zfH] at hu; cases hu
  ·rw [zfI] at hu; cases hu
 st := fun t fs hg hu => by
  simp only [gd, List.mem_cons, List.not_mem_nil, or_false] at hg
  rcases hg with rfl | rfl | rfl | rfl | rfl | rfl | rfl | rfl | rfl | rfl | rfl | rfl | rfl | rfl | rfl | rfl | rfl | rfl
  ·rw [znS] at hu; cases hu
  ·rw [znT] at hu; cases hu
  ·rw [zpN] at hu; cases hu
  ·rw [znU] at hu; cases hu
  ·rw [zmh] at hu; cases hu
  ·rw [ziC] at hu; cases hu
  ·rw [ziD] at hu; cases hu
  ·rw [ziE] at hu; cases hu
  ·rw [ziF] at hu; cases hu
  ·refine zr2 hu zso (by simp [gd]) (by kernel_rfl) (by kernel_rfl) (fun pvs h0 => ?_)
   obtain ⟨_, pvs, rfl, ⟨y0, rfl⟩, h1⟩ := zam h0
   obtain ⟨_, pvs, rfl, ⟨y1, rfl⟩, h2⟩ := zam h1
   obtain ⟨_, pvs, rfl, ⟨y2, rfl⟩, h3⟩ := zam h2
   obtain ⟨_, pvs, rfl, ⟨y3, rfl⟩, h4⟩ := zam h3
   obtain ⟨_, pvs, rfl, ⟨y4, rfl⟩, h5⟩ := zam h4
   rw [ziL h5]
   exact ⟨(⟨((UInt8.toNat y0 : Nat) : Int), y1, y2, y3, y4⟩ : zh), rfl⟩
  ·rw [ziG] at hu; cases hu
  ·rw [ziH] at hu; cases hu
  ·refine zr2 hu zsp (by simp [gd]) (by kernel_rfl) (by kernel_rfl) (fun pvs h0 => ?_)
   obtain ⟨_, pvs, rfl, ⟨y0, rfl⟩, h1⟩ := zam h0
   obtain ⟨_, pvs, rfl, ⟨y1, rfl⟩, h2⟩ := zam h1
   rw [ziL h2]
   exact ⟨(⟨y0, y1⟩ : zq), rfl⟩
  ·refine zr2 hu zru (by simp [gd]) (by kernel_rfl) (by kernel_rfl) (fun pvs h0 => ?_)
   obtain ⟨_, pvs, rfl, ⟨y0, rfl⟩, h1⟩ := zam h0
   obtain ⟨_, pvs, rfl, ⟨y1, rfl⟩, h2⟩ := zam h1
   rw [ziL h2]
   exact ⟨(⟨y0, y1⟩ : za), rfl⟩
  ·rw [zfF] at hu; cases hu
  ·rw [zfG] at hu; cases hu
  ·rw [zfH] at hu; cases hu
  ·rw [zfI] at hu; cases hu
 only := fun t u hg hu => by
  simp only [gd, List.mem_cons, List.not_mem_nil, or_false] at hg
  rcases hg with rfl | rfl | rfl | rfl | rfl | rfl | rfl | rfl | rfl | rfl | rfl | rfl | rfl | rfl | rfl | rfl | rfl | rfl
  ·rw [znS] at hu; cases hu; exact .inl ⟨_, rfl⟩
  ·rw [znT] at hu; cases hu; exact .inl ⟨_, rfl⟩
  ·rw [zpN] at hu; cases hu; exact .inr (.inl rfl)
  ·rw [znU] at hu; cases hu; exact .inl ⟨_, rfl⟩
  ·rw [zmh] at hu; cases hu; exact .inr (.inr (.inl rfl))
  ·rw [ziC] at hu; cases hu; exact .inl ⟨_, rfl⟩
  ·rw [ziD] at hu; cases hu; exact .inl ⟨_, rfl⟩
  ·rw [ziE] at hu; cases hu; exact .inl ⟨_, rfl⟩
  ·rw [ziF] at hu; cases hu; exact .inr (.inr (.inr (.inl ⟨_, rfl⟩)))
  ·obtain ⟨fs, e⟩ := zll; rw [e] at hu; cases hu; exact .inr (.inr (.inr (.inr ⟨_, rfl⟩)))
  ·rw [ziG] at hu; cases hu; exact .inr (.inr (.inr (.inl ⟨_, rfl⟩)))
  ·rw [ziH] at hu; cases hu; exact .inr (.inr (.inr (.inl ⟨_, rfl⟩)))
  ·obtain ⟨fs, e⟩ := zlm; rw [e] at hu; cases hu; exact .inr (.inr (.inr (.inr ⟨_, rfl⟩)))
  ·obtain ⟨fs, e⟩ := zhu; rw [e] at hu; cases hu; exact .inr (.inr (.inr (.inr ⟨_, rfl⟩)))
  ·rw [zfF] at hu; cases hu; exact .inr (.inr (.inr (.inl ⟨_, rfl⟩)))
  ·rw [zfG] at hu; cases hu; exact .inl ⟨_, rfl⟩
  ·rw [zfH] at hu; cases hu; exact .inl ⟨_, rfl⟩
  ·rw [zfI] at hu; cases hu; exact .inl ⟨_, rfl⟩
end Go.Lv.VT
