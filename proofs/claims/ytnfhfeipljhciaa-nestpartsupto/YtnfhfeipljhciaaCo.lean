/- Contracts. -/
import Derived.Test.YtnfhfeipljhciaaTx
import Derived.Test.YtnfhfeipljhciaaIp
namespace Go.Lv.VT
open Go.Proofs
noncomputable def c_ref04_Size (F : List VValue × Int → Option Int) : Con I := ⟨15, ⟨[.sl 50, .int .i64], []⟩, [], ⟨[.int .i64], []⟩, 0, F⟩
noncomputable def e_ref04_Size (ref04_Size : List VValue × Int → Option Int) : Env0 I := ⟨[c_ref04_Size ref04_Size], [], [], 0, [(3, ⟨[5, 6], ⟨[.int .i64, .int .i64], []⟩, [0, 1, 4], [], [], 0, [5], ⟨[.int .i64], []⟩, []⟩)], [], []⟩
theorem ev_ref04_Size (ref04_Size : List VValue × Int → Option Int) (x : List VValue × Int) : evF2 (e_ref04_Size ref04_Size) T FK Try.f15.ntmps (rsl Try.f15) (body Try.f15) (c_ref04_Size (ref04_Size_B ref04_Size)) ⟨[.int .i64], []⟩ x = ref04_Size_B ref04_Size x := by kernel_rfl
theorem st_ref04_Size (ref04_Size : List VValue × Int → Option Int) (hself : ConOK Try.prog (c_ref04_Size ref04_Size)) : ConOK Try.prog (c_ref04_Size (ref04_Size_B ref04_Size)) :=
  conOK_of_evF2 (con := c_ref04_Size (ref04_Size_B ref04_Size)) (A := e_ref04_Size ref04_Size) mixed ipOK (fun c hc => by
    simp only [e_ref04_Size, List.mem_cons, List.not_mem_nil, or_false] at hc
    subst hc
    exact hself) (by kernel_rfl) tok (by kernel_rfl : Try.prog.funcs[15]? = some Try.f15) (by kernel_rfl : Try.f15.body = some (body Try.f15)) (by kernel_rfl : Try.f15.results = (rsl Try.f15).toArray) (by kernel_rfl) rfl (fun x => Nat.le_of_ble_eq_true (by kernel_rfl)) (fun x y h => (ev_ref04_Size ref04_Size x).trans h)
theorem ok_ref04_Size : ConOK Try.prog (c_ref04_Size ref04_Size) :=
  ConOK.recE (I := I) (P := Try.prog) (f := 15) (inS := ⟨[.sl 50, .int .i64], []⟩) (cst := []) (outS := ⟨[.int .i64], []⟩) (k := 0) ref04_Size_B (by kernel_rfl) (fun S h => st_ref04_Size S h)
noncomputable def c_ref04_Closer (F : Int → Option Int) : Con I := ⟨24, ⟨[.int .u8], []⟩, [], ⟨[.int .u8], []⟩, 0, F⟩
noncomputable def e_ref04_Closer : Env0 I := ⟨[], [], [], 0, [], [(6, ⟨[6], ⟨[.bool], []⟩, [3], [], [], 0, [], ⟨[], []⟩, []⟩)], []⟩
theorem ev_ref04_Closer (x : Int) : evF2 (e_ref04_Closer) T FK Try.f24.ntmps (rsl Try.f24) (body Try.f24) (c_ref04_Closer (ref04_Closer)) ⟨[.int .u8], []⟩ x = ref04_Closer x := by kernel_rfl
theorem ok_ref04_Closer : ConOK Try.prog (c_ref04_Closer ref04_Closer) :=
  conOK_of_evF2 (con := c_ref04_Closer (ref04_Closer)) (A := e_ref04_Closer) mixed ipOK (fun c hc => by cases hc) (by kernel_rfl) tok (by kernel_rfl : Try.prog.funcs[24]? = some Try.f24) (by kernel_rfl : Try.f24.body = some (body Try.f24)) (by kernel_rfl : Try.f24.results = (rsl Try.f24).toArray) (by kernel_rfl) rfl (fun x => Nat.le_of_ble_eq_true (by kernel_rfl)) (fun x y h => (ev_ref04_Closer x).trans h)
noncomputable def c_ref04_Deep (F : List VValue → Option Int) : Con I := ⟨16, ⟨[.sl 50], []⟩, [], ⟨[.int .i64], []⟩, 0, F⟩
noncomputable def e_ref04_Deep (ref04_Deep : List VValue → Option Int) : Env0 I := ⟨[c_ref04_Closer ref04_Closer, c_ref04_Deep ref04_Deep], [], [], 0, [(3, ⟨[3, 4], ⟨[.int .i64, .int .i64], []⟩, [0, 2], [], [], 0, [3], ⟨[.int .i64], []⟩, []⟩)], [(4, ⟨[3, 4], ⟨[.int .i64, .int .i64], []⟩, [], [], [], 0, [], ⟨[], []⟩, []⟩)], []⟩
theorem ev_ref04_Deep (ref04_Deep : List VValue → Option Int) (x : List VValue) : evF2 (e_ref04_Deep ref04_Deep) T FK Try.f16.ntmps (rsl Try.f16) (body Try.f16) (c_ref04_Deep (ref04_Deep_B ref04_Deep)) ⟨[.int .i64], []⟩ x = ref04_Deep_B ref04_Deep x := by kernel_rfl
theorem st_ref04_Deep (ref04_Deep : List VValue → Option Int) (hself : ConOK Try.prog (c_ref04_Deep ref04_Deep)) : ConOK Try.prog (c_ref04_Deep (ref04_Deep_B ref04_Deep)) :=
  conOK_of_evF2 (con := c_ref04_Deep (ref04_Deep_B ref04_Deep)) (A := e_ref04_Deep ref04_Deep) mixed ipOK (fun c hc => by
    simp only [e_ref04_Deep, List.mem_cons, List.not_mem_nil, or_false] at hc
    rcases hc with rfl | rfl
    · exact ok_ref04_Closer
    · exact hself) (by kernel_rfl) tok (by kernel_rfl : Try.prog.funcs[16]? = some Try.f16) (by kernel_rfl : Try.f16.body = some (body Try.f16)) (by kernel_rfl : Try.f16.results = (rsl Try.f16).toArray) (by kernel_rfl) rfl (fun x => Nat.le_of_ble_eq_true (by kernel_rfl)) (fun x y h => (ev_ref04_Deep ref04_Deep x).trans h)
theorem ok_ref04_Deep : ConOK Try.prog (c_ref04_Deep ref04_Deep) :=
  ConOK.recE (I := I) (P := Try.prog) (f := 16) (inS := ⟨[.sl 50], []⟩) (cst := []) (outS := ⟨[.int .i64], []⟩) (k := 0) ref04_Deep_B (by kernel_rfl) (fun S h => st_ref04_Deep S h)
noncomputable def c_ref04_Great (F : List VValue → Option Bool) : Con I := ⟨4, ⟨[.sl 50], []⟩, [], ⟨[.bool], []⟩, 0, F⟩
noncomputable def e_ref04_Great : Env0 I := ⟨[c_ref04_Size ref04_Size, c_ref04_Deep ref04_Deep], [], [], 0, [], [], []⟩
theorem ev_ref04_Great (x : List VValue) : evF2 (e_ref04_Great) T FK Try.f4.ntmps (rsl Try.f4) (body Try.f4) (c_ref04_Great (ref04_Great)) ⟨[.bool], []⟩ x = ref04_Great x := by kernel_rfl
theorem ok_ref04_Great : ConOK Try.prog (c_ref04_Great ref04_Great) :=
  conOK_of_evF2 (con := c_ref04_Great (ref04_Great)) (A := e_ref04_Great) mixed ipOK (fun c hc => by
    simp only [e_ref04_Great, List.mem_cons, List.not_mem_nil, or_false] at hc
    rcases hc with rfl | rfl
    · exact ok_ref04_Size
    · exact ok_ref04_Deep) (by kernel_rfl) tok (by kernel_rfl : Try.prog.funcs[4]? = some Try.f4) (by kernel_rfl : Try.f4.body = some (body Try.f4)) (by kernel_rfl : Try.f4.results = (rsl Try.f4).toArray) (by kernel_rfl) rfl (fun x => Nat.le_of_ble_eq_true (by kernel_rfl)) (fun x y h => (ev_ref04_Great x).trans h)
noncomputable def c_nest_closer (F : Int → Option Int) : Con I := ⟨25, ⟨[.int .u8], []⟩, [], ⟨[.int .u8], []⟩, 0, F⟩
noncomputable def e_nest_closer : Env0 I := ⟨[], [], [], 0, [], [(7, ⟨[6], ⟨[.bool], []⟩, [0], [], [], 0, [], ⟨[], []⟩, []⟩)], []⟩
theorem ev_nest_closer (x : Int) : evF2 (e_nest_closer) T FK Try.f25.ntmps (rsl Try.f25) (body Try.f25) (c_nest_closer (nest_closer)) ⟨[.int .u8], []⟩ x = nest_closer x := by kernel_rfl
theorem ok_nest_closer : ConOK Try.prog (c_nest_closer nest_closer) :=
  conOK_of_evF2 (con := c_nest_closer (nest_closer)) (A := e_nest_closer) mixed ipOK (fun c hc => by cases hc) (by kernel_rfl) tok (by kernel_rfl : Try.prog.funcs[25]? = some Try.f25) (by kernel_rfl : Try.f25.body = some (body Try.f25)) (by kernel_rfl : Try.f25.results = (rsl Try.f25).toArray) (by kernel_rfl) rfl (fun x => Nat.le_of_ble_eq_true (by kernel_rfl)) (fun x y h => (ev_nest_closer x).trans h)
noncomputable def c_nest_look (F : List VValue × Int → Option Vnest_found) : Con I := ⟨17, ⟨[.sl 50, .int .u8], []⟩, [], ⟨[.val 45], []⟩, 0, F⟩
noncomputable def e_nest_look (nest_look : List VValue × Int → Option Vnest_found) : Env0 I := ⟨[c_nest_closer nest_closer, c_nest_look nest_look], [], [], 0, [(3, ⟨[12], ⟨[.int .i64], [(1, .row 45)]⟩, [1, 4, 5, 10, 11], [0], [1], 0, [], ⟨[], [(1, .row 45)]⟩, [1]⟩)], [(9, ⟨[], ⟨[], [(1, .row 45)]⟩, [7, 8, 12], [2], [1], 0, [], ⟨[], []⟩, []⟩), (12, ⟨[12], ⟨[.int .i64], [(1, .row 45)]⟩, [], [], [1], 0, [], ⟨[], []⟩, []⟩)], []⟩
theorem ev_nest_look (nest_look : List VValue × Int → Option Vnest_found) (x : List VValue × Int) : evF2 (e_nest_look nest_look) T FK Try.f17.ntmps (rsl Try.f17) (body Try.f17) (c_nest_look (nest_look_B nest_look)) ⟨[.optr 0], [(0, .row 45)]⟩ x = nest_look_B nest_look x := by kernel_rfl
theorem st_nest_look (nest_look : List VValue × Int → Option Vnest_found) (hself : ConOK Try.prog (c_nest_look nest_look)) : ConOK Try.prog (c_nest_look (nest_look_B nest_look)) :=
  conOK_of_evF2 (con := c_nest_look (nest_look_B nest_look)) (A := e_nest_look nest_look) mixed ipOK (fun c hc => by
    simp only [e_nest_look, List.mem_cons, List.not_mem_nil, or_false] at hc
    rcases hc with rfl | rfl
    · exact ok_nest_closer
    · exact hself) (by kernel_rfl) tok (by kernel_rfl : Try.prog.funcs[17]? = some Try.f17) (by kernel_rfl : Try.f17.body = some (body Try.f17)) (by kernel_rfl : Try.f17.results = (rsl Try.f17).toArray) (by kernel_rfl) rfl (fun x => Nat.le_of_ble_eq_true (by kernel_rfl)) (fun x y h => (ev_nest_look nest_look x).trans h)
theorem ok_nest_look : ConOK Try.prog (c_nest_look nest_look) :=
  ConOK.recE (I := I) (P := Try.prog) (f := 17) (inS := ⟨[.sl 50, .int .u8], []⟩) (cst := []) (outS := ⟨[.val 45], []⟩) (k := 0) nest_look_B (by kernel_rfl) (fun S h => st_nest_look S h)
noncomputable def c_nest_Check (F : List VValue → Option Int) : Con I := ⟨11, ⟨[.sl 50], []⟩, [], ⟨[.int .i64], []⟩, 0, F⟩
noncomputable def e_nest_Check : Env0 I := ⟨[c_nest_look nest_look], [], [], 0, [], [], []⟩
theorem ev_nest_Check (x : List VValue) : evF2 (e_nest_Check) T FK Try.f11.ntmps (rsl Try.f11) (body Try.f11) (c_nest_Check (nest_Check)) ⟨[.int .i64], []⟩ x = nest_Check x := by kernel_rfl
theorem ok_nest_Check : ConOK Try.prog (c_nest_Check nest_Check) :=
  conOK_of_evF2 (con := c_nest_Check (nest_Check)) (A := e_nest_Check) mixed ipOK (fun c hc => by
    simp only [e_nest_Check, List.mem_cons, List.not_mem_nil, or_false] at hc
    subst hc
    exact ok_nest_look) (by kernel_rfl) tok (by kernel_rfl : Try.prog.funcs[11]? = some Try.f11) (by kernel_rfl : Try.f11.body = some (body Try.f11)) (by kernel_rfl : Try.f11.results = (rsl Try.f11).toArray) (by kernel_rfl) rfl (fun x => Nat.le_of_ble_eq_true (by kernel_rfl)) (fun x y h => (ev_nest_Check x).trans h)
noncomputable def c_nest_Depth (F : List VValue → Option (Int × Int)) : Con I := ⟨5, ⟨[.sl 50], []⟩, [], ⟨[.int .i64, .int .i64], []⟩, 0, F⟩
noncomputable def e_nest_Depth : Env0 I := ⟨[c_nest_Check nest_Check, c_nest_look nest_look], [], [], 0, [], [], []⟩
theorem ev_nest_Depth (x : List VValue) : evF2 (e_nest_Depth) T FK Try.f5.ntmps (rsl Try.f5) (body Try.f5) (c_nest_Depth (nest_Depth)) ⟨[.int .i64, .int .i64], []⟩ x = nest_Depth x := by kernel_rfl
theorem ok_nest_Depth : ConOK Try.prog (c_nest_Depth nest_Depth) :=
  conOK_of_evF2 (con := c_nest_Depth (nest_Depth)) (A := e_nest_Depth) mixed ipOK (fun c hc => by
    simp only [e_nest_Depth, List.mem_cons, List.not_mem_nil, or_false] at hc
    rcases hc with rfl | rfl
    · exact ok_nest_Check
    · exact ok_nest_look) (by kernel_rfl) tok (by kernel_rfl : Try.prog.funcs[5]? = some Try.f5) (by kernel_rfl : Try.f5.body = some (body Try.f5)) (by kernel_rfl : Try.f5.results = (rsl Try.f5).toArray) (by kernel_rfl) rfl (fun x => Nat.le_of_ble_eq_true (by kernel_rfl)) (fun x y h => (ev_nest_Depth x).trans h)
noncomputable def c_ref04_Tokens (F : List VValue → Option (List VToken)) : Con I := ⟨22, ⟨[.sl 50], []⟩, [], ⟨[.sl 48], []⟩, 0, F⟩
noncomputable def e_ref04_Tokens (ref04_Tokens : List VValue → Option (List VToken)) : Env0 I := ⟨[c_ref04_Closer ref04_Closer, c_ref04_Tokens ref04_Tokens], [(5, [6]), (9, [3])], [], 0, [(3, ⟨[3, 4], ⟨[.own 1001, .int .i64], [(1001, .sl 48)]⟩, [0, 2], [], [], 0, [3], ⟨[.own 1001], [(1001, .sl 48)]⟩, [1001]⟩)], [(4, ⟨[3, 4], ⟨[.own 1103, .int .i64], [(1103, .sl 48)]⟩, [], [], [], 0, [], ⟨[], []⟩, []⟩)], []⟩
theorem ev_ref04_Tokens (ref04_Tokens : List VValue → Option (List VToken)) (x : List VValue) : evF2 (e_ref04_Tokens ref04_Tokens) T FK Try.f22.ntmps (rsl Try.f22) (body Try.f22) (c_ref04_Tokens (ref04_Tokens_B ref04_Tokens)) ⟨[.sl 48], []⟩ x = ref04_Tokens_B ref04_Tokens x := by kernel_rfl
theorem st_ref04_Tokens (ref04_Tokens : List VValue → Option (List VToken)) (hself : ConOK Try.prog (c_ref04_Tokens ref04_Tokens)) : ConOK Try.prog (c_ref04_Tokens (ref04_Tokens_B ref04_Tokens)) :=
  conOK_of_evF2 (con := c_ref04_Tokens (ref04_Tokens_B ref04_Tokens)) (A := e_ref04_Tokens ref04_Tokens) mixed ipOK (fun c hc => by
    simp only [e_ref04_Tokens, List.mem_cons, List.not_mem_nil, or_false] at hc
    rcases hc with rfl | rfl
    · exact ok_ref04_Closer
    · exact hself) (by kernel_rfl) tok (by kernel_rfl : Try.prog.funcs[22]? = some Try.f22) (by kernel_rfl : Try.f22.body = some (body Try.f22)) (by kernel_rfl : Try.f22.results = (rsl Try.f22).toArray) (by kernel_rfl) rfl (fun x => Nat.le_of_ble_eq_true (by kernel_rfl)) (fun x y h => (ev_ref04_Tokens ref04_Tokens x).trans h)
theorem ok_ref04_Tokens : ConOK Try.prog (c_ref04_Tokens ref04_Tokens) :=
  ConOK.recE (I := I) (P := Try.prog) (f := 22) (inS := ⟨[.sl 50], []⟩) (cst := []) (outS := ⟨[.sl 48], []⟩) (k := 0) ref04_Tokens_B (by kernel_rfl) (fun S h => st_ref04_Tokens S h)
noncomputable def c_ref04_shaped (F : List VValue × Int → Option Bool) : Con I := ⟨23, ⟨[.sl 50, .int .u8], []⟩, [], ⟨[.bool], []⟩, 0, F⟩
noncomputable def e_ref04_shaped (ref04_shaped : List VValue × Int → Option Bool) : Env0 I := ⟨[c_ref04_Closer ref04_Closer, c_ref04_shaped ref04_shaped], [], [], 0, [(2, ⟨[5], ⟨[.int .i64], []⟩, [0, 1], [], [], 0, [], ⟨[], []⟩, []⟩)], [], []⟩
theorem ev_ref04_shaped (ref04_shaped : List VValue × Int → Option Bool) (x : List VValue × Int) : evF2 (e_ref04_shaped ref04_shaped) T FK Try.f23.ntmps (rsl Try.f23) (body Try.f23) (c_ref04_shaped (ref04_shaped_B ref04_shaped)) ⟨[.bool], []⟩ x = ref04_shaped_B ref04_shaped x := by kernel_rfl
theorem st_ref04_shaped (ref04_shaped : List VValue × Int → Option Bool) (hself : ConOK Try.prog (c_ref04_shaped ref04_shaped)) : ConOK Try.prog (c_ref04_shaped (ref04_shaped_B ref04_shaped)) :=
  conOK_of_evF2 (con := c_ref04_shaped (ref04_shaped_B ref04_shaped)) (A := e_ref04_shaped ref04_shaped) mixed ipOK (fun c hc => by
    simp only [e_ref04_shaped, List.mem_cons, List.not_mem_nil, or_false] at hc
    rcases hc with rfl | rfl
    · exact ok_ref04_Closer
    · exact hself) (by kernel_rfl) tok (by kernel_rfl : Try.prog.funcs[23]? = some Try.f23) (by kernel_rfl : Try.f23.body = some (body Try.f23)) (by kernel_rfl : Try.f23.results = (rsl Try.f23).toArray) (by kernel_rfl) rfl (fun x => Nat.le_of_ble_eq_true (by kernel_rfl)) (fun x y h => (ev_ref04_shaped ref04_shaped x).trans h)
theorem ok_ref04_shaped : ConOK Try.prog (c_ref04_shaped ref04_shaped) :=
  ConOK.recE (I := I) (P := Try.prog) (f := 23) (inS := ⟨[.sl 50, .int .u8], []⟩) (cst := []) (outS := ⟨[.bool], []⟩) (k := 0) ref04_shaped_B (by kernel_rfl) (fun S h => st_ref04_shaped S h)
noncomputable def c_ref04_Check (F : List VValue → Option Int) : Con I := ⟨12, ⟨[.sl 50], []⟩, [], ⟨[.int .i64], []⟩, 0, F⟩
noncomputable def e_ref04_Check : Env0 I := ⟨[c_ref04_Deep ref04_Deep, c_ref04_Tokens ref04_Tokens, c_ref04_shaped ref04_shaped], [], [], 0, [], [], []⟩
theorem ev_ref04_Check (x : List VValue) : evF2 (e_ref04_Check) T FK Try.f12.ntmps (rsl Try.f12) (body Try.f12) (c_ref04_Check (ref04_Check)) ⟨[.int .i64], []⟩ x = ref04_Check x := by kernel_rfl
theorem ok_ref04_Check : ConOK Try.prog (c_ref04_Check ref04_Check) :=
  conOK_of_evF2 (con := c_ref04_Check (ref04_Check)) (A := e_ref04_Check) mixed ipOK (fun c hc => by
    simp only [e_ref04_Check, List.mem_cons, List.not_mem_nil, or_false] at hc
    rcases hc with rfl | rfl | rfl
    · exact ok_ref04_Deep
    · exact ok_ref04_Tokens
    · exact ok_ref04_shaped) (by kernel_rfl) tok (by kernel_rfl : Try.prog.funcs[12]? = some Try.f12) (by kernel_rfl : Try.f12.body = some (body Try.f12)) (by kernel_rfl : Try.f12.results = (rsl Try.f12).toArray) (by kernel_rfl) rfl (fun x => Nat.le_of_ble_eq_true (by kernel_rfl)) (fun x y h => (ev_ref04_Check x).trans h)
noncomputable def c_ref04_Depth (F : List VValue → Option (Int × Int)) : Con I := ⟨6, ⟨[.sl 50], []⟩, [], ⟨[.int .i64, .int .i64], []⟩, 0, F⟩
noncomputable def e_ref04_Depth : Env0 I := ⟨[c_ref04_Check ref04_Check, c_ref04_Deep ref04_Deep], [], [], 0, [], [], []⟩
theorem ev_ref04_Depth (x : List VValue) : evF2 (e_ref04_Depth) T FK Try.f6.ntmps (rsl Try.f6) (body Try.f6) (c_ref04_Depth (ref04_Depth)) ⟨[.int .i64, .int .i64], []⟩ x = ref04_Depth x := by kernel_rfl
theorem ok_ref04_Depth : ConOK Try.prog (c_ref04_Depth ref04_Depth) :=
  conOK_of_evF2 (con := c_ref04_Depth (ref04_Depth)) (A := e_ref04_Depth) mixed ipOK (fun c hc => by
    simp only [e_ref04_Depth, List.mem_cons, List.not_mem_nil, or_false] at hc
    rcases hc with rfl | rfl
    · exact ok_ref04_Check
    · exact ok_ref04_Deep) (by kernel_rfl) tok (by kernel_rfl : Try.prog.funcs[6]? = some Try.f6) (by kernel_rfl : Try.f6.body = some (body Try.f6)) (by kernel_rfl : Try.f6.results = (rsl Try.f6).toArray) (by kernel_rfl) rfl (fun x => Nat.le_of_ble_eq_true (by kernel_rfl)) (fun x y h => (ev_ref04_Depth x).trans h)
noncomputable def c_nest_Trim_1 (F : Int × List VValue → Option Bool) : Con I := ⟨18, ⟨[.int .i64, .optr 0], [(0, .row 22)]⟩, [0], ⟨[.bool], []⟩, 0, F⟩
noncomputable def e_nest_Trim_1 : Env0 I := ⟨[], [], [], 1, [], [], []⟩
theorem ev_nest_Trim_1 (x : Int × List VValue) : evF2 (e_nest_Trim_1) T FK Try.f18.ntmps (rsl Try.f18) (body Try.f18) (c_nest_Trim_1 (nest_Trim_1)) ⟨[.bool], []⟩ x = nest_Trim_1 x := by kernel_rfl
theorem ok_nest_Trim_1 : ConOK Try.prog (c_nest_Trim_1 nest_Trim_1) :=
  conOK_of_evF2 (con := c_nest_Trim_1 (nest_Trim_1)) (A := e_nest_Trim_1) mixed ipOK (fun c hc => by cases hc) (by kernel_rfl) tok (by kernel_rfl : Try.prog.funcs[18]? = some Try.f18) (by kernel_rfl : Try.f18.body = some (body Try.f18)) (by kernel_rfl : Try.f18.results = (rsl Try.f18).toArray) (by kernel_rfl) rfl (fun x => Nat.le_of_ble_eq_true (by kernel_rfl)) (fun x y h => (ev_nest_Trim_1 x).trans h)
noncomputable def c_slices_Clone_Value (F : List VValue → Option (List VValue)) : Con I := ⟨26, ⟨[.sl 50], []⟩, [], ⟨[.own 0], [(0, .sl 50)]⟩, 1, F⟩
noncomputable def e_slices_Clone_Value : Env0 I := ⟨[], [], [], 0, [], [], []⟩
theorem ev_slices_Clone_Value (x : List VValue) : evF2 (e_slices_Clone_Value) T FK Try.f26.ntmps (rsl Try.f26) (body Try.f26) (c_slices_Clone_Value (slices_Clone_Value)) ⟨[.own 0], [(0, .sl 50)]⟩ x = slices_Clone_Value x := by kernel_rfl
theorem ok_slices_Clone_Value : ConOK Try.prog (c_slices_Clone_Value slices_Clone_Value) :=
  conOK_of_evF2 (con := c_slices_Clone_Value (slices_Clone_Value)) (A := e_slices_Clone_Value) mixed ipOK (fun c hc => by cases hc) (by kernel_rfl) tok (by kernel_rfl : Try.prog.funcs[26]? = some Try.f26) (by kernel_rfl : Try.f26.body = some (body Try.f26)) (by kernel_rfl : Try.f26.results = (rsl Try.f26).toArray) (by kernel_rfl) rfl (fun x => Nat.le_of_ble_eq_true (by kernel_rfl)) (fun x y h => (ev_slices_Clone_Value x).trans h)
noncomputable def c_nest_twin (F : List VValue → Option (List VValue)) : Con I := ⟨19, ⟨[.sl 50], []⟩, [], ⟨[.sl 50], []⟩, 0, F⟩
noncomputable def e_nest_twin (nest_twin : List VValue → Option (List VValue)) : Env0 I := ⟨[c_slices_Clone_Value slices_Clone_Value, c_nest_twin nest_twin], [], [], 0, [(3, ⟨[8], ⟨[.int .i64], [(0, .sl 50)]⟩, [0, 2, 7], [], [0], 0, [], ⟨[], [(0, .sl 50)]⟩, [0]⟩)], [], []⟩
theorem ev_nest_twin (nest_twin : List VValue → Option (List VValue)) (x : List VValue) : evF2 (e_nest_twin nest_twin) T FK Try.f19.ntmps (rsl Try.f19) (body Try.f19) (c_nest_twin (nest_twin_B nest_twin)) ⟨[.sl 50], []⟩ x = nest_twin_B nest_twin x := by kernel_rfl
theorem st_nest_twin (nest_twin : List VValue → Option (List VValue)) (hself : ConOK Try.prog (c_nest_twin nest_twin)) : ConOK Try.prog (c_nest_twin (nest_twin_B nest_twin)) :=
  conOK_of_evF2 (con := c_nest_twin (nest_twin_B nest_twin)) (A := e_nest_twin nest_twin) mixed ipOK (fun c hc => by
    simp only [e_nest_twin, List.mem_cons, List.not_mem_nil, or_false] at hc
    rcases hc with rfl | rfl
    · exact ok_slices_Clone_Value
    · exact hself) (by kernel_rfl) tok (by kernel_rfl : Try.prog.funcs[19]? = some Try.f19) (by kernel_rfl : Try.f19.body = some (body Try.f19)) (by kernel_rfl : Try.f19.results = (rsl Try.f19).toArray) (by kernel_rfl) rfl (fun x => Nat.le_of_ble_eq_true (by kernel_rfl)) (fun x y h => (ev_nest_twin nest_twin x).trans h)
theorem ok_nest_twin : ConOK Try.prog (c_nest_twin nest_twin) :=
  ConOK.recE (I := I) (P := Try.prog) (f := 19) (inS := ⟨[.sl 50], []⟩) (cst := []) (outS := ⟨[.sl 50], []⟩) (k := 0) nest_twin_B (by kernel_rfl) (fun S h => st_nest_twin S h)
noncomputable def c_nest_Trim (F : List VValue → Option (List VValue × Int)) : Con I := ⟨7, ⟨[.sl 50], []⟩, [], ⟨[.sl 50, .int .i64], []⟩, 0, F⟩
noncomputable def e_nest_Trim : Env0 I := ⟨[c_nest_Check nest_Check, c_nest_Trim_1 nest_Trim_1, c_nest_twin nest_twin], [], [], 0, [(6, ⟨[6], ⟨[.int .i64], []⟩, [1, 2, 3, 5, 7], [0], [], 0, [6], ⟨[.int .i64], []⟩, []⟩), (8, ⟨[7], ⟨[.int .i64], []⟩, [1, 2, 3, 5, 6], [0], [], 2, [7], ⟨[.int .i64], []⟩, []⟩)], [], []⟩
theorem ev_nest_Trim (x : List VValue) : evF2 (e_nest_Trim) T FK Try.f7.ntmps (rsl Try.f7) (body Try.f7) (c_nest_Trim (nest_Trim)) ⟨[.sl 50, .int .i64], []⟩ x = nest_Trim x := by kernel_rfl
theorem ok_nest_Trim : ConOK Try.prog (c_nest_Trim nest_Trim) :=
  conOK_of_evF2 (con := c_nest_Trim (nest_Trim)) (A := e_nest_Trim) mixed ipOK (fun c hc => by
    simp only [e_nest_Trim, List.mem_cons, List.not_mem_nil, or_false] at hc
    rcases hc with rfl | rfl | rfl
    · exact ok_nest_Check
    · exact ok_nest_Trim_1
    · exact ok_nest_twin) (by kernel_rfl) tok (by kernel_rfl : Try.prog.funcs[7]? = some Try.f7) (by kernel_rfl : Try.f7.body = some (body Try.f7)) (by kernel_rfl : Try.f7.results = (rsl Try.f7).toArray) (by kernel_rfl) rfl (fun x => Nat.le_of_ble_eq_true (by kernel_rfl)) (fun x y h => (ev_nest_Trim x).trans h)
noncomputable def c_ref04_Trimmed (F : List VValue → Option (List VValue)) : Con I := ⟨20, ⟨[.sl 50], []⟩, [], ⟨[.sl 50], []⟩, 0, F⟩
noncomputable def e_ref04_Trimmed : Env0 I := ⟨[], [], [], 0, [(1, ⟨[0], ⟨[.sl 50], []⟩, [2], [], [], 0, [0], ⟨[.sl 50], []⟩, []⟩), (3, ⟨[0], ⟨[.sl 50], []⟩, [2], [], [], 2, [0], ⟨[.sl 50], []⟩, []⟩)], [], []⟩
theorem ev_ref04_Trimmed (x : List VValue) : evF2 (e_ref04_Trimmed) T FK Try.f20.ntmps (rsl Try.f20) (body Try.f20) (c_ref04_Trimmed (ref04_Trimmed)) ⟨[.sl 50], []⟩ x = ref04_Trimmed x := by kernel_rfl
theorem ok_ref04_Trimmed : ConOK Try.prog (c_ref04_Trimmed ref04_Trimmed) :=
  conOK_of_evF2 (con := c_ref04_Trimmed (ref04_Trimmed)) (A := e_ref04_Trimmed) mixed ipOK (fun c hc => by cases hc) (by kernel_rfl) tok (by kernel_rfl : Try.prog.funcs[20]? = some Try.f20) (by kernel_rfl : Try.f20.body = some (body Try.f20)) (by kernel_rfl : Try.f20.results = (rsl Try.f20).toArray) (by kernel_rfl) rfl (fun x => Nat.le_of_ble_eq_true (by kernel_rfl)) (fun x y h => (ev_ref04_Trimmed x).trans h)
noncomputable def c_ref04_Trim (F : List VValue → Option (List VValue × Int)) : Con I := ⟨8, ⟨[.sl 50], []⟩, [], ⟨[.sl 50, .int .i64], []⟩, 0, F⟩
noncomputable def e_ref04_Trim : Env0 I := ⟨[c_ref04_Check ref04_Check, c_ref04_Trimmed ref04_Trimmed], [], [], 0, [], [], []⟩
theorem ev_ref04_Trim (x : List VValue) : evF2 (e_ref04_Trim) T FK Try.f8.ntmps (rsl Try.f8) (body Try.f8) (c_ref04_Trim (ref04_Trim)) ⟨[.sl 50, .int .i64], []⟩ x = ref04_Trim x := by kernel_rfl
theorem ok_ref04_Trim : ConOK Try.prog (c_ref04_Trim ref04_Trim) :=
  conOK_of_evF2 (con := c_ref04_Trim (ref04_Trim)) (A := e_ref04_Trim) mixed ipOK (fun c hc => by
    simp only [e_ref04_Trim, List.mem_cons, List.not_mem_nil, or_false] at hc
    rcases hc with rfl | rfl
    · exact ok_ref04_Check
    · exact ok_ref04_Trimmed) (by kernel_rfl) tok (by kernel_rfl : Try.prog.funcs[8]? = some Try.f8) (by kernel_rfl : Try.f8.body = some (body Try.f8)) (by kernel_rfl : Try.f8.results = (rsl Try.f8).toArray) (by kernel_rfl) rfl (fun x => Nat.le_of_ble_eq_true (by kernel_rfl)) (fun x y h => (ev_ref04_Trim x).trans h)
noncomputable def c_nest_Split (F : List VValue × Int → Option (List (List VValue) × Int)) : Con I := ⟨9, ⟨[.sl 50, .int .u8], []⟩, [], ⟨[.sl 22, .int .i64], []⟩, 0, F⟩
noncomputable def e_nest_Split : Env0 I := ⟨[c_nest_Check nest_Check, c_nest_twin nest_twin], [(12, [7]), (15, [5])], [], 0, [(9, ⟨[7, 8, 24], ⟨[.own 1105, .int .i64, .int .i64], [(1105, .sl 22)]⟩, [0, 1, 4, 5, 22, 23], [], [], 0, [7, 8], ⟨[.own 1105, .int .i64], [(1105, .sl 22)]⟩, [1105]⟩)], [(14, ⟨[7, 8, 24], ⟨[.own 1207, .int .i64, .int .i64], [(1207, .sl 22)]⟩, [], [], [], 0, [], ⟨[], []⟩, []⟩)], []⟩
theorem ev_nest_Split (x : List VValue × Int) : evF2 (e_nest_Split) T FK Try.f9.ntmps (rsl Try.f9) (body Try.f9) (c_nest_Split (nest_Split)) ⟨[.sl 22, .int .i64], []⟩ x = nest_Split x := by kernel_rfl
theorem ok_nest_Split : ConOK Try.prog (c_nest_Split nest_Split) :=
  conOK_of_evF2 (con := c_nest_Split (nest_Split)) (A := e_nest_Split) mixed ipOK (fun c hc => by
    simp only [e_nest_Split, List.mem_cons, List.not_mem_nil, or_false] at hc
    rcases hc with rfl | rfl
    · exact ok_nest_Check
    · exact ok_nest_twin) (by kernel_rfl) tok (by kernel_rfl : Try.prog.funcs[9]? = some Try.f9) (by kernel_rfl : Try.f9.body = some (body Try.f9)) (by kernel_rfl : Try.f9.results = (rsl Try.f9).toArray) (by kernel_rfl) rfl (fun x => Nat.le_of_ble_eq_true (by kernel_rfl)) (fun x y h => (ev_nest_Split x).trans h)
noncomputable def c_ref04_Parts (F : List VValue × Int → Option (List (List VValue))) : Con I := ⟨21, ⟨[.sl 50, .int .u8], []⟩, [], ⟨[.sl 22], []⟩, 0, F⟩
noncomputable def e_ref04_Parts : Env0 I := ⟨[], [(1, [100000]), (6, [100001]), (8, [15]), (10, [14])], [], 0, [(3, ⟨[5, 6], ⟨[.own 1210, .int .i64], [(1210, .slo 22 [.own 1314]), (1314, .sl 50)]⟩, [0, 1, 4], [], [], 0, [5], ⟨[.own 1210], [(1210, .slo 22 [.own 1314]), (1314, .sl 50)]⟩, [1210, 1314]⟩)], [(4, ⟨[5, 6], ⟨[.own 1416, .int .i64], [(1416, .slo 22 [.own 1417]), (1417, .sl 50)]⟩, [], [], [], 0, [], ⟨[], []⟩, []⟩)], [(6, [5])]⟩
theorem ev_ref04_Parts (x : List VValue × Int) : evF2 (e_ref04_Parts) T FK Try.f21.ntmps (rsl Try.f21) (body Try.f21) (c_ref04_Parts (ref04_Parts)) ⟨[.sl 22], []⟩ x = ref04_Parts x := by kernel_rfl
theorem ok_ref04_Parts : ConOK Try.prog (c_ref04_Parts ref04_Parts) :=
  conOK_of_evF2 (con := c_ref04_Parts (ref04_Parts)) (A := e_ref04_Parts) mixed ipOK (fun c hc => by cases hc) (by kernel_rfl) tok (by kernel_rfl : Try.prog.funcs[21]? = some Try.f21) (by kernel_rfl : Try.f21.body = some (body Try.f21)) (by kernel_rfl : Try.f21.results = (rsl Try.f21).toArray) (by kernel_rfl) rfl (fun x => Nat.le_of_ble_eq_true (by kernel_rfl)) (fun x y h => (ev_ref04_Parts x).trans h)
noncomputable def c_ref04_Split (F : List VValue × Int → Option (List (List VValue) × Int)) : Con I := ⟨10, ⟨[.sl 50, .int .u8], []⟩, [], ⟨[.sl 22, .int .i64], []⟩, 0, F⟩
noncomputable def e_ref04_Split : Env0 I := ⟨[c_ref04_Check ref04_Check, c_ref04_Parts ref04_Parts], [], [], 0, [], [], []⟩
theorem ev_ref04_Split (x : List VValue × Int) : evF2 (e_ref04_Split) T FK Try.f10.ntmps (rsl Try.f10) (body Try.f10) (c_ref04_Split (ref04_Split)) ⟨[.sl 22, .int .i64], []⟩ x = ref04_Split x := by kernel_rfl
theorem ok_ref04_Split : ConOK Try.prog (c_ref04_Split ref04_Split) :=
  conOK_of_evF2 (con := c_ref04_Split (ref04_Split)) (A := e_ref04_Split) mixed ipOK (fun c hc => by
    simp only [e_ref04_Split, List.mem_cons, List.not_mem_nil, or_false] at hc
    rcases hc with rfl | rfl
    · exact ok_ref04_Check
    · exact ok_ref04_Parts) (by kernel_rfl) tok (by kernel_rfl : Try.prog.funcs[10]? = some Try.f10) (by kernel_rfl : Try.f10.body = some (body Try.f10)) (by kernel_rfl : Try.f10.results = (rsl Try.f10).toArray) (by kernel_rfl) rfl (fun x => Nat.le_of_ble_eq_true (by kernel_rfl)) (fun x y h => (ev_ref04_Split x).trans h)
noncomputable def c_ref04_Same (F : List VValue × List VValue → Option Bool) : Con I := ⟨13, ⟨[.sl 50, .sl 50], []⟩, [], ⟨[.bool], []⟩, 0, F⟩
noncomputable def e_ref04_Same (ref04_Same : List VValue × List VValue → Option Bool) : Env0 I := ⟨[c_ref04_Same ref04_Same], [], [], 0, [(4, ⟨[5], ⟨[.int .i64], []⟩, [0, 1], [], [], 0, [], ⟨[], []⟩, []⟩)], [], []⟩
theorem ev_ref04_Same (ref04_Same : List VValue × List VValue → Option Bool) (x : List VValue × List VValue) : evF2 (e_ref04_Same ref04_Same) T FK Try.f13.ntmps (rsl Try.f13) (body Try.f13) (c_ref04_Same (ref04_Same_B ref04_Same)) ⟨[.bool], []⟩ x = ref04_Same_B ref04_Same x := by kernel_rfl
theorem st_ref04_Same (ref04_Same : List VValue × List VValue → Option Bool) (hself : ConOK Try.prog (c_ref04_Same ref04_Same)) : ConOK Try.prog (c_ref04_Same (ref04_Same_B ref04_Same)) :=
  conOK_of_evF2 (con := c_ref04_Same (ref04_Same_B ref04_Same)) (A := e_ref04_Same ref04_Same) mixed ipOK (fun c hc => by
    simp only [e_ref04_Same, List.mem_cons, List.not_mem_nil, or_false] at hc
    subst hc
    exact hself) (by kernel_rfl) tok (by kernel_rfl : Try.prog.funcs[13]? = some Try.f13) (by kernel_rfl : Try.f13.body = some (body Try.f13)) (by kernel_rfl : Try.f13.results = (rsl Try.f13).toArray) (by kernel_rfl) rfl (fun x => Nat.le_of_ble_eq_true (by kernel_rfl)) (fun x y h => (ev_ref04_Same ref04_Same x).trans h)
theorem ok_ref04_Same : ConOK Try.prog (c_ref04_Same ref04_Same) :=
  ConOK.recE (I := I) (P := Try.prog) (f := 13) (inS := ⟨[.sl 50, .sl 50], []⟩) (cst := []) (outS := ⟨[.bool], []⟩) (k := 0) ref04_Same_B (by kernel_rfl) (fun S h => st_ref04_Same S h)
noncomputable def c_ref04_SameParts (F : List (List VValue) × List (List VValue) → Option Bool) : Con I := ⟨14, ⟨[.sl 22, .sl 22], []⟩, [], ⟨[.bool], []⟩, 0, F⟩
noncomputable def e_ref04_SameParts : Env0 I := ⟨[c_ref04_Same ref04_Same], [], [], 0, [(4, ⟨[5], ⟨[.int .i64], []⟩, [0, 1], [], [], 0, [], ⟨[], []⟩, []⟩)], [], []⟩
theorem ev_ref04_SameParts (x : List (List VValue) × List (List VValue)) : evF2 (e_ref04_SameParts) T FK Try.f14.ntmps (rsl Try.f14) (body Try.f14) (c_ref04_SameParts (ref04_SameParts)) ⟨[.bool], []⟩ x = ref04_SameParts x := by kernel_rfl
theorem ok_ref04_SameParts : ConOK Try.prog (c_ref04_SameParts ref04_SameParts) :=
  conOK_of_evF2 (con := c_ref04_SameParts (ref04_SameParts)) (A := e_ref04_SameParts) mixed ipOK (fun c hc => by
    simp only [e_ref04_SameParts, List.mem_cons, List.not_mem_nil, or_false] at hc
    subst hc
    exact ok_ref04_Same) (by kernel_rfl) tok (by kernel_rfl : Try.prog.funcs[14]? = some Try.f14) (by kernel_rfl : Try.f14.body = some (body Try.f14)) (by kernel_rfl : Try.f14.results = (rsl Try.f14).toArray) (by kernel_rfl) rfl (fun x => Nat.le_of_ble_eq_true (by kernel_rfl)) (fun x y h => (ev_ref04_SameParts x).trans h)
noncomputable def c_law04_NestParts (F : List VValue × Int → Option Bool) : Con I := ⟨3, ⟨[.sl 50, .int .u8], []⟩, [], ⟨[.bool], []⟩, 0, F⟩
noncomputable def e_law04_NestParts : Env0 I := ⟨[c_ref04_Great ref04_Great, c_nest_Depth nest_Depth, c_ref04_Depth ref04_Depth, c_nest_Trim nest_Trim, c_ref04_Trim ref04_Trim, c_nest_Split nest_Split, c_ref04_Split ref04_Split, c_nest_Check nest_Check, c_ref04_Check ref04_Check, c_ref04_Same ref04_Same, c_ref04_SameParts ref04_SameParts], [], [], 0, [], [], []⟩
theorem ev_law04_NestParts (x : List VValue × Int) : evF2 (e_law04_NestParts) T FK Try.f3.ntmps (rsl Try.f3) (body Try.f3) (c_law04_NestParts (law04_NestParts)) ⟨[.bool], []⟩ x = law04_NestParts x := by kernel_rfl
theorem ok_law04_NestParts : ConOK Try.prog (c_law04_NestParts law04_NestParts) :=
  conOK_of_evF2 (con := c_law04_NestParts (law04_NestParts)) (A := e_law04_NestParts) mixed ipOK (fun c hc => by
    simp only [e_law04_NestParts, List.mem_cons, List.not_mem_nil, or_false] at hc
    rcases hc with rfl | rfl | rfl | rfl | rfl | rfl | rfl | rfl | rfl | rfl | rfl
    · exact ok_ref04_Great
    · exact ok_nest_Depth
    · exact ok_ref04_Depth
    · exact ok_nest_Trim
    · exact ok_ref04_Trim
    · exact ok_nest_Split
    · exact ok_ref04_Split
    · exact ok_nest_Check
    · exact ok_ref04_Check
    · exact ok_ref04_Same
    · exact ok_ref04_SameParts) (by kernel_rfl) tok (by kernel_rfl : Try.prog.funcs[3]? = some Try.f3) (by kernel_rfl : Try.f3.body = some (body Try.f3)) (by kernel_rfl : Try.f3.results = (rsl Try.f3).toArray) (by kernel_rfl) rfl (fun x => Nat.le_of_ble_eq_true (by kernel_rfl)) (fun x y h => (ev_law04_NestParts x).trans h)
end Go.Lv.VT
