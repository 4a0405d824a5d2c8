/- The operations by their bytes, two more sides: printed by wip/mkop.py. -/
import Derived.Test.YthlmddcjbhacmaaDoorOp
set_option linter.unusedVariables false
set_option linter.unusedSimpArgs false
namespace Go.Proofs.YthlmddcjbhacmaaDoor
open Go.RowKit Go.Proofs.YthlmddcjbhacmaaDoorW.PrintWords
def names2 : List ByteArray := [⟨#[65, 83, 76]⟩, ⟨#[82, 79, 76]⟩, ⟨#[76, 83, 82]⟩, ⟨#[82, 79, 82]⟩, ⟨#[83, 84, 88]⟩, ⟨#[76, 68, 88]⟩, ⟨#[68, 69, 67]⟩, ⟨#[73, 78, 67]⟩]
def names2b : List ByteArray := [⟨#[84, 88, 65]⟩, ⟨#[84, 65, 88]⟩, ⟨#[68, 69, 88]⟩, ⟨#[78, 79, 80]⟩]
def names2c : List ByteArray := [⟨#[84, 88, 83]⟩, ⟨#[84, 83, 88]⟩]
def names0 : List ByteArray := [⟨#[]⟩, ⟨#[]⟩, ⟨#[]⟩, ⟨#[]⟩, ⟨#[83, 84, 89]⟩, ⟨#[76, 68, 89]⟩, ⟨#[67, 80, 89]⟩, ⟨#[67, 80, 88]⟩]
def names0a : List ByteArray := [⟨#[66, 82, 75]⟩, ⟨#[74, 83, 82]⟩, ⟨#[82, 84, 73]⟩, ⟨#[82, 84, 83]⟩, ⟨#[]⟩, ⟨#[76, 68, 89]⟩, ⟨#[67, 80, 89]⟩, ⟨#[67, 80, 88]⟩]
def names0b : List ByteArray := [⟨#[80, 72, 80]⟩, ⟨#[80, 76, 80]⟩, ⟨#[80, 72, 65]⟩, ⟨#[80, 76, 65]⟩, ⟨#[68, 69, 89]⟩, ⟨#[84, 65, 89]⟩, ⟨#[73, 78, 89]⟩, ⟨#[73, 78, 88]⟩]
def names0c : List ByteArray := [⟨#[66, 80, 76]⟩, ⟨#[66, 77, 73]⟩, ⟨#[66, 86, 67]⟩, ⟨#[66, 86, 83]⟩, ⟨#[66, 67, 67]⟩, ⟨#[66, 67, 83]⟩, ⟨#[66, 78, 69]⟩, ⟨#[66, 69, 81]⟩]
def names0d : List ByteArray := [⟨#[67, 76, 67]⟩, ⟨#[83, 69, 67]⟩, ⟨#[67, 76, 73]⟩, ⟨#[83, 69, 73]⟩, ⟨#[84, 89, 65]⟩, ⟨#[67, 76, 86]⟩, ⟨#[67, 76, 68]⟩, ⟨#[83, 69, 68]⟩]
def modes0 : List Int := [0, 6, 0, 0, 0, 2, 2, 2]
def opTwo (row part : Int) : ByteArray × Int := if part = 0 then (if row = 5 then (nameAt names2 row, 2) else (⟨#[]⟩, 0)) else if part = 1 then (nameAt names2 row, 3) else if part = 2 then (if row < 4 then (nameAt names2 row, 1) else (nameAt names2b (row - 4), 0)) else if part = 3 then (nameAt names2 row, 6) else if part = 5 then (if row = 4 ∨ row = 5 then (nameAt names2 row, 5) else (nameAt names2 row, 4)) else if part = 6 then (if row = 4 ∨ row = 5 then (nameAt names2c (row - 4), 0) else (⟨#[]⟩, 0)) else if part = 7 then (if row = 4 then (⟨#[]⟩, 0) else if row = 5 then (nameAt names2 row, 8) else (nameAt names2 row, 7)) else (⟨#[]⟩, 0)
def opZero (row part : Int) : ByteArray × Int := if part = 0 then (nameAt names0a row, modeAt modes0 row) else if part = 1 then (if row = 1 then (⟨#[66, 73, 84]⟩, 3) else (nameAt names0 row, 3)) else if part = 2 then (nameAt names0b row, 0) else if part = 3 then (if row = 1 then (⟨#[66, 73, 84]⟩, 6) else if row = 2 then (⟨#[74, 77, 80]⟩, 6) else if row = 3 then (⟨#[74, 77, 80]⟩, 9) else (nameAt names0 row, 6)) else if part = 4 then (nameAt names0c row, 12) else if part = 5 then (if row = 4 ∨ row = 5 then (nameAt names0 row, 4) else (⟨#[]⟩, 0)) else if part = 6 then (nameAt names0d row, 0) else if part = 7 then (if row = 5 then (nameAt names0 row, 7) else (⟨#[]⟩, 0)) else (⟨#[]⟩, 0)
set_option maxHeartbeats 1600000 in
theorem spec_l03Two_0 (row : Int) (w : World) (g0 : 0 ≤ row) (g1 : row < 8) : Calls Tryd.prog 79 #[.int .i64 row, .int .i64 0] w fun e w' => e = .returned (.agg #[.string (opTwo row 0).1, .int .i64 (opTwo row 0).2]) ∧ Below w.heap.size w w' := by
  by_cases q0 : row = 5
  · subst q0
    rw [show opTwo 5 0 = (nameAt names2 5, 2) from rfl]
    have HB := hR w; go_enter Tryd.func79, Tryd.ntmps79
    go_wp2
    skip
    all_goals (refine bodyPost_ret (v := .agg #[.string (nameAt names2 5), .int .i64 (2)]) (by (simp only [results, Tryd.results79]; go_simp <;> (rfl))) rfl ?_)
    all_goals exact ⟨rfl, blw⟩
  rw [show opTwo row 0 = (⟨#[]⟩, 0) from by simp [opTwo, *]]
  have qb0 : (row == 5) = false := by simpa using q0
  have hn : ∀ h : (row).toNat < ([.string ⟨#[65, 83, 76]⟩, .string ⟨#[82, 79, 76]⟩, .string ⟨#[76, 83, 82]⟩, .string ⟨#[82, 79, 82]⟩, .string ⟨#[83, 84, 88]⟩, .string ⟨#[76, 68, 88]⟩, .string ⟨#[68, 69, 67]⟩, .string ⟨#[73, 78, 67]⟩] : List Value).length, ([.string ⟨#[65, 83, 76]⟩, .string ⟨#[82, 79, 76]⟩, .string ⟨#[76, 83, 82]⟩, .string ⟨#[82, 79, 82]⟩, .string ⟨#[83, 84, 88]⟩, .string ⟨#[76, 68, 88]⟩, .string ⟨#[68, 69, 67]⟩, .string ⟨#[73, 78, 67]⟩] : List Value)[(row).toNat]'h = .string (nameAt names2 (row)) := name_at names2 (row)
  have HB := hR w; go_enter Tryd.func79, Tryd.ntmps79
  go_wp2
  all_goals clear hn
  all_goals (refine bodyPost_ret (v := .agg #[.string (⟨#[]⟩), .int .i64 (0)]) (by (simp only [results, Tryd.results79]; go_simp <;> (rfl))) rfl ?_)
  all_goals exact ⟨rfl, blw⟩
set_option maxHeartbeats 1600000 in
theorem spec_l03Two_1 (row : Int) (w : World) (g0 : 0 ≤ row) (g1 : row < 8) : Calls Tryd.prog 79 #[.int .i64 row, .int .i64 1] w fun e w' => e = .returned (.agg #[.string (opTwo row 1).1, .int .i64 (opTwo row 1).2]) ∧ Below w.heap.size w w' := by
  rw [show opTwo row 1 = (nameAt names2 row, 3) from by simp [opTwo, *]]
  have hn : ∀ h : (row).toNat < ([.string ⟨#[65, 83, 76]⟩, .string ⟨#[82, 79, 76]⟩, .string ⟨#[76, 83, 82]⟩, .string ⟨#[82, 79, 82]⟩, .string ⟨#[83, 84, 88]⟩, .string ⟨#[76, 68, 88]⟩, .string ⟨#[68, 69, 67]⟩, .string ⟨#[73, 78, 67]⟩] : List Value).length, ([.string ⟨#[65, 83, 76]⟩, .string ⟨#[82, 79, 76]⟩, .string ⟨#[76, 83, 82]⟩, .string ⟨#[82, 79, 82]⟩, .string ⟨#[83, 84, 88]⟩, .string ⟨#[76, 68, 88]⟩, .string ⟨#[68, 69, 67]⟩, .string ⟨#[73, 78, 67]⟩] : List Value)[(row).toNat]'h = .string (nameAt names2 (row)) := name_at names2 (row)
  generalize nameAt names2 row = nm at hn ⊢
  have HB := hR w; go_enter Tryd.func79, Tryd.ntmps79
  go_wp2
  all_goals clear hn
  all_goals (refine bodyPost_ret (v := .agg #[.string (nm), .int .i64 (3)]) (by (simp only [results, Tryd.results79]; go_simp <;> (rfl))) rfl ?_)
  all_goals exact ⟨rfl, blw⟩
set_option maxHeartbeats 1600000 in
theorem spec_l03Two_2 (row : Int) (w : World) (g0 : 0 ≤ row) (g1 : row < 8) : Calls Tryd.prog 79 #[.int .i64 row, .int .i64 2] w fun e w' => e = .returned (.agg #[.string (opTwo row 2).1, .int .i64 (opTwo row 2).2]) ∧ Below w.heap.size w w' := by
  by_cases q0 : row < 4
  · rw [show opTwo row 2 = (nameAt names2 row, 1) from by simp [opTwo, *]]
    have hn : ∀ h : (row).toNat < ([.string ⟨#[65, 83, 76]⟩, .string ⟨#[82, 79, 76]⟩, .string ⟨#[76, 83, 82]⟩, .string ⟨#[82, 79, 82]⟩, .string ⟨#[83, 84, 88]⟩, .string ⟨#[76, 68, 88]⟩, .string ⟨#[68, 69, 67]⟩, .string ⟨#[73, 78, 67]⟩] : List Value).length, ([.string ⟨#[65, 83, 76]⟩, .string ⟨#[82, 79, 76]⟩, .string ⟨#[76, 83, 82]⟩, .string ⟨#[82, 79, 82]⟩, .string ⟨#[83, 84, 88]⟩, .string ⟨#[76, 68, 88]⟩, .string ⟨#[68, 69, 67]⟩, .string ⟨#[73, 78, 67]⟩] : List Value)[(row).toNat]'h = .string (nameAt names2 (row)) := name_at names2 (row)
    generalize nameAt names2 row = nm at hn ⊢
    have HB := hR w; go_enter Tryd.func79, Tryd.ntmps79
    go_wp2
    all_goals clear hn
    all_goals (refine bodyPost_ret (v := .agg #[.string (nm), .int .i64 (1)]) (by (simp only [results, Tryd.results79]; go_simp <;> (rfl))) rfl ?_)
    all_goals exact ⟨rfl, blw⟩
  by_cases q1 : row = 4
  · subst q1
    rw [show opTwo 4 2 = (nameAt names2b (4 - 4), 0) from rfl]
    have HB := hR w; go_enter Tryd.func79, Tryd.ntmps79
    go_wp2
    skip
    all_goals (refine bodyPost_ret (v := .agg #[.string (nameAt names2b (4 - 4)), .int .i64 (0)]) (by (simp only [results, Tryd.results79]; go_simp <;> (rfl))) rfl ?_)
    all_goals exact ⟨rfl, blw⟩
  by_cases q2 : row = 5
  · subst q2
    rw [show opTwo 5 2 = (nameAt names2b (5 - 4), 0) from rfl]
    have HB := hR w; go_enter Tryd.func79, Tryd.ntmps79
    go_wp2
    skip
    all_goals (refine bodyPost_ret (v := .agg #[.string (nameAt names2b (5 - 4)), .int .i64 (0)]) (by (simp only [results, Tryd.results79]; go_simp <;> (rfl))) rfl ?_)
    all_goals exact ⟨rfl, blw⟩
  by_cases q3 : row = 6
  · subst q3
    rw [show opTwo 6 2 = (nameAt names2b (6 - 4), 0) from rfl]
    have HB := hR w; go_enter Tryd.func79, Tryd.ntmps79
    go_wp2
    skip
    all_goals (refine bodyPost_ret (v := .agg #[.string (nameAt names2b (6 - 4)), .int .i64 (0)]) (by (simp only [results, Tryd.results79]; go_simp <;> (rfl))) rfl ?_)
    all_goals exact ⟨rfl, blw⟩
  by_cases q4 : row = 7
  · subst q4
    rw [show opTwo 7 2 = (nameAt names2b (7 - 4), 0) from rfl]
    have HB := hR w; go_enter Tryd.func79, Tryd.ntmps79
    go_wp2
    skip
    all_goals (refine bodyPost_ret (v := .agg #[.string (nameAt names2b (7 - 4)), .int .i64 (0)]) (by (simp only [results, Tryd.results79]; go_simp <;> (rfl))) rfl ?_)
    all_goals exact ⟨rfl, blw⟩
  exact absurd g1 (by omega)
set_option maxHeartbeats 1600000 in
theorem spec_l03Two_3 (row : Int) (w : World) (g0 : 0 ≤ row) (g1 : row < 8) : Calls Tryd.prog 79 #[.int .i64 row, .int .i64 3] w fun e w' => e = .returned (.agg #[.string (opTwo row 3).1, .int .i64 (opTwo row 3).2]) ∧ Below w.heap.size w w' := by
  rw [show opTwo row 3 = (nameAt names2 row, 6) from by simp [opTwo, *]]
  have hn : ∀ h : (row).toNat < ([.string ⟨#[65, 83, 76]⟩, .string ⟨#[82, 79, 76]⟩, .string ⟨#[76, 83, 82]⟩, .string ⟨#[82, 79, 82]⟩, .string ⟨#[83, 84, 88]⟩, .string ⟨#[76, 68, 88]⟩, .string ⟨#[68, 69, 67]⟩, .string ⟨#[73, 78, 67]⟩] : List Value).length, ([.string ⟨#[65, 83, 76]⟩, .string ⟨#[82, 79, 76]⟩, .string ⟨#[76, 83, 82]⟩, .string ⟨#[82, 79, 82]⟩, .string ⟨#[83, 84, 88]⟩, .string ⟨#[76, 68, 88]⟩, .string ⟨#[68, 69, 67]⟩, .string ⟨#[73, 78, 67]⟩] : List Value)[(row).toNat]'h = .string (nameAt names2 (row)) := name_at names2 (row)
  generalize nameAt names2 row = nm at hn ⊢
  have HB := hR w; go_enter Tryd.func79, Tryd.ntmps79
  go_wp2
  all_goals clear hn
  all_goals (refine bodyPost_ret (v := .agg #[.string (nm), .int .i64 (6)]) (by (simp only [results, Tryd.results79]; go_simp <;> (rfl))) rfl ?_)
  all_goals exact ⟨rfl, blw⟩
set_option maxHeartbeats 1600000 in
theorem spec_l03Two_4 (row : Int) (w : World) (g0 : 0 ≤ row) (g1 : row < 8) : Calls Tryd.prog 79 #[.int .i64 row, .int .i64 4] w fun e w' => e = .returned (.agg #[.string (opTwo row 4).1, .int .i64 (opTwo row 4).2]) ∧ Below w.heap.size w w' := by
  rw [show opTwo row 4 = (⟨#[]⟩, 0) from by simp [opTwo, *]]
  have hn : ∀ h : (row).toNat < ([.string ⟨#[65, 83, 76]⟩, .string ⟨#[82, 79, 76]⟩, .string ⟨#[76, 83, 82]⟩, .string ⟨#[82, 79, 82]⟩, .string ⟨#[83, 84, 88]⟩, .string ⟨#[76, 68, 88]⟩, .string ⟨#[68, 69, 67]⟩, .string ⟨#[73, 78, 67]⟩] : List Value).length, ([.string ⟨#[65, 83, 76]⟩, .string ⟨#[82, 79, 76]⟩, .string ⟨#[76, 83, 82]⟩, .string ⟨#[82, 79, 82]⟩, .string ⟨#[83, 84, 88]⟩, .string ⟨#[76, 68, 88]⟩, .string ⟨#[68, 69, 67]⟩, .string ⟨#[73, 78, 67]⟩] : List Value)[(row).toNat]'h = .string (nameAt names2 (row)) := name_at names2 (row)
  have HB := hR w; go_enter Tryd.func79, Tryd.ntmps79
  go_wp2
  all_goals clear hn
  all_goals (refine bodyPost_ret (v := .agg #[.string (⟨#[]⟩), .int .i64 (0)]) (by (simp only [results, Tryd.results79]; go_simp <;> (rfl))) rfl ?_)
  all_goals exact ⟨rfl, blw⟩
set_option maxHeartbeats 1600000 in
theorem spec_l03Two_5 (row : Int) (w : World) (g0 : 0 ≤ row) (g1 : row < 8) : Calls Tryd.prog 79 #[.int .i64 row, .int .i64 5] w fun e w' => e = .returned (.agg #[.string (opTwo row 5).1, .int .i64 (opTwo row 5).2]) ∧ Below w.heap.size w w' := by
  by_cases q0 : row = 4
  · subst q0
    rw [show opTwo 4 5 = (nameAt names2 4, 5) from rfl]
    have HB := hR w; go_enter Tryd.func79, Tryd.ntmps79
    go_wp2
    skip
    all_goals (refine bodyPost_ret (v := .agg #[.string (nameAt names2 4), .int .i64 (5)]) (by (simp only [results, Tryd.results79]; go_simp <;> (rfl))) rfl ?_)
    all_goals exact ⟨rfl, blw⟩
  by_cases q1 : row = 5
  · subst q1
    rw [show opTwo 5 5 = (nameAt names2 5, 5) from rfl]
    have HB := hR w; go_enter Tryd.func79, Tryd.ntmps79
    go_wp2
    skip
    all_goals (refine bodyPost_ret (v := .agg #[.string (nameAt names2 5), .int .i64 (5)]) (by (simp only [results, Tryd.results79]; go_simp <;> (rfl))) rfl ?_)
    all_goals exact ⟨rfl, blw⟩
  rw [show opTwo row 5 = (nameAt names2 row, 4) from by simp [opTwo, *]]
  have qb0 : (row == 4) = false := by simpa using q0
  have qb1 : (row == 5) = false := by simpa using q1
  have hn : ∀ h : (row).toNat < ([.string ⟨#[65, 83, 76]⟩, .string ⟨#[82, 79, 76]⟩, .string ⟨#[76, 83, 82]⟩, .string ⟨#[82, 79, 82]⟩, .string ⟨#[83, 84, 88]⟩, .string ⟨#[76, 68, 88]⟩, .string ⟨#[68, 69, 67]⟩, .string ⟨#[73, 78, 67]⟩] : List Value).length, ([.string ⟨#[65, 83, 76]⟩, .string ⟨#[82, 79, 76]⟩, .string ⟨#[76, 83, 82]⟩, .string ⟨#[82, 79, 82]⟩, .string ⟨#[83, 84, 88]⟩, .string ⟨#[76, 68, 88]⟩, .string ⟨#[68, 69, 67]⟩, .string ⟨#[73, 78, 67]⟩] : List Value)[(row).toNat]'h = .string (nameAt names2 (row)) := name_at names2 (row)
  generalize nameAt names2 row = nm at hn ⊢
  have HB := hR w; go_enter Tryd.func79, Tryd.ntmps79
  go_wp2
  all_goals clear hn
  all_goals (refine bodyPost_ret (v := .agg #[.string (nm), .int .i64 (4)]) (by (simp only [results, Tryd.results79]; go_simp <;> (rfl))) rfl ?_)
  all_goals exact ⟨rfl, blw⟩
set_option maxHeartbeats 1600000 in
theorem spec_l03Two_6 (row : Int) (w : World) (g0 : 0 ≤ row) (g1 : row < 8) : Calls Tryd.prog 79 #[.int .i64 row, .int .i64 6] w fun e w' => e = .returned (.agg #[.string (opTwo row 6).1, .int .i64 (opTwo row 6).2]) ∧ Below w.heap.size w w' := by
  by_cases q0 : row = 4
  · subst q0
    rw [show opTwo 4 6 = (nameAt names2c (4 - 4), 0) from rfl]
    have HB := hR w; go_enter Tryd.func79, Tryd.ntmps79
    go_wp2
    skip
    all_goals (refine bodyPost_ret (v := .agg #[.string (nameAt names2c (4 - 4)), .int .i64 (0)]) (by (simp only [results, Tryd.results79]; go_simp <;> (rfl))) rfl ?_)
    all_goals exact ⟨rfl, blw⟩
  by_cases q1 : row = 5
  · subst q1
    rw [show opTwo 5 6 = (nameAt names2c (5 - 4), 0) from rfl]
    have HB := hR w; go_enter Tryd.func79, Tryd.ntmps79
    go_wp2
    skip
    all_goals (refine bodyPost_ret (v := .agg #[.string (nameAt names2c (5 - 4)), .int .i64 (0)]) (by (simp only [results, Tryd.results79]; go_simp <;> (rfl))) rfl ?_)
    all_goals exact ⟨rfl, blw⟩
  rw [show opTwo row 6 = (⟨#[]⟩, 0) from by simp [opTwo, *]]
  have qb0 : (row == 4) = false := by simpa using q0
  have qb1 : (row == 5) = false := by simpa using q1
  have hn : ∀ h : (row).toNat < ([.string ⟨#[65, 83, 76]⟩, .string ⟨#[82, 79, 76]⟩, .string ⟨#[76, 83, 82]⟩, .string ⟨#[82, 79, 82]⟩, .string ⟨#[83, 84, 88]⟩, .string ⟨#[76, 68, 88]⟩, .string ⟨#[68, 69, 67]⟩, .string ⟨#[73, 78, 67]⟩] : List Value).length, ([.string ⟨#[65, 83, 76]⟩, .string ⟨#[82, 79, 76]⟩, .string ⟨#[76, 83, 82]⟩, .string ⟨#[82, 79, 82]⟩, .string ⟨#[83, 84, 88]⟩, .string ⟨#[76, 68, 88]⟩, .string ⟨#[68, 69, 67]⟩, .string ⟨#[73, 78, 67]⟩] : List Value)[(row).toNat]'h = .string (nameAt names2 (row)) := name_at names2 (row)
  have HB := hR w; go_enter Tryd.func79, Tryd.ntmps79
  go_wp2
  all_goals clear hn
  all_goals (refine bodyPost_ret (v := .agg #[.string (⟨#[]⟩), .int .i64 (0)]) (by (simp only [results, Tryd.results79]; go_simp <;> (rfl))) rfl ?_)
  all_goals exact ⟨rfl, blw⟩
set_option maxHeartbeats 1600000 in
theorem spec_l03Two_7 (row : Int) (w : World) (g0 : 0 ≤ row) (g1 : row < 8) : Calls Tryd.prog 79 #[.int .i64 row, .int .i64 7] w fun e w' => e = .returned (.agg #[.string (opTwo row 7).1, .int .i64 (opTwo row 7).2]) ∧ Below w.heap.size w w' := by
  by_cases q0 : row = 4
  · subst q0
    rw [show opTwo 4 7 = (⟨#[]⟩, 0) from rfl]
    have HB := hR w; go_enter Tryd.func79, Tryd.ntmps79
    go_wp2
    skip
    all_goals (refine bodyPost_ret (v := .agg #[.string (⟨#[]⟩), .int .i64 (0)]) (by (simp only [results, Tryd.results79]; go_simp <;> (rfl))) rfl ?_)
    all_goals exact ⟨rfl, blw⟩
  by_cases q1 : row = 5
  · subst q1
    rw [show opTwo 5 7 = (nameAt names2 5, 8) from rfl]
    have HB := hR w; go_enter Tryd.func79, Tryd.ntmps79
    go_wp2
    skip
    all_goals (refine bodyPost_ret (v := .agg #[.string (nameAt names2 5), .int .i64 (8)]) (by (simp only [results, Tryd.results79]; go_simp <;> (rfl))) rfl ?_)
    all_goals exact ⟨rfl, blw⟩
  rw [show opTwo row 7 = (nameAt names2 row, 7) from by simp [opTwo, *]]
  have qb0 : (row == 4) = false := by simpa using q0
  have qb1 : (row == 5) = false := by simpa using q1
  have hn : ∀ h : (row).toNat < ([.string ⟨#[65, 83, 76]⟩, .string ⟨#[82, 79, 76]⟩, .string ⟨#[76, 83, 82]⟩, .string ⟨#[82, 79, 82]⟩, .string ⟨#[83, 84, 88]⟩, .string ⟨#[76, 68, 88]⟩, .string ⟨#[68, 69, 67]⟩, .string ⟨#[73, 78, 67]⟩] : List Value).length, ([.string ⟨#[65, 83, 76]⟩, .string ⟨#[82, 79, 76]⟩, .string ⟨#[76, 83, 82]⟩, .string ⟨#[82, 79, 82]⟩, .string ⟨#[83, 84, 88]⟩, .string ⟨#[76, 68, 88]⟩, .string ⟨#[68, 69, 67]⟩, .string ⟨#[73, 78, 67]⟩] : List Value)[(row).toNat]'h = .string (nameAt names2 (row)) := name_at names2 (row)
  generalize nameAt names2 row = nm at hn ⊢
  have HB := hR w; go_enter Tryd.func79, Tryd.ntmps79
  go_wp2
  all_goals clear hn
  all_goals (refine bodyPost_ret (v := .agg #[.string (nm), .int .i64 (7)]) (by (simp only [results, Tryd.results79]; go_simp <;> (rfl))) rfl ?_)
  all_goals exact ⟨rfl, blw⟩
set_option maxHeartbeats 1600000 in
theorem spec_l03Zero_0 (row : Int) (w : World) (g0 : 0 ≤ row) (g1 : row < 8) : Calls Tryd.prog 77 #[.int .i64 row, .int .i64 0] w fun e w' => e = .returned (.agg #[.string (opZero row 0).1, .int .i64 (opZero row 0).2]) ∧ Below w.heap.size w w' := by
  rw [show opZero row 0 = (nameAt names0a row, modeAt modes0 row) from by simp [opZero, *]]
  have hn : ∀ h : (row).toNat < ([.string ⟨#[]⟩, .string ⟨#[]⟩, .string ⟨#[]⟩, .string ⟨#[]⟩, .string ⟨#[83, 84, 89]⟩, .string ⟨#[76, 68, 89]⟩, .string ⟨#[67, 80, 89]⟩, .string ⟨#[67, 80, 88]⟩] : List Value).length, ([.string ⟨#[]⟩, .string ⟨#[]⟩, .string ⟨#[]⟩, .string ⟨#[]⟩, .string ⟨#[83, 84, 89]⟩, .string ⟨#[76, 68, 89]⟩, .string ⟨#[67, 80, 89]⟩, .string ⟨#[67, 80, 88]⟩] : List Value)[(row).toNat]'h = .string (nameAt names0 (row)) := name_at names0 (row)
  have hb : ∀ h : (row).toNat < ([.string ⟨#[66, 82, 75]⟩, .string ⟨#[74, 83, 82]⟩, .string ⟨#[82, 84, 73]⟩, .string ⟨#[82, 84, 83]⟩, .string ⟨#[]⟩, .string ⟨#[76, 68, 89]⟩, .string ⟨#[67, 80, 89]⟩, .string ⟨#[67, 80, 88]⟩] : List Value).length, ([.string ⟨#[66, 82, 75]⟩, .string ⟨#[74, 83, 82]⟩, .string ⟨#[82, 84, 73]⟩, .string ⟨#[82, 84, 83]⟩, .string ⟨#[]⟩, .string ⟨#[76, 68, 89]⟩, .string ⟨#[67, 80, 89]⟩, .string ⟨#[67, 80, 88]⟩] : List Value)[(row).toNat]'h = .string (nameAt names0a (row)) := name_at names0a (row)
  have hm : ∀ h : (row).toNat < ([.int .i64 0, .int .i64 6, .int .i64 0, .int .i64 0, .int .i64 0, .int .i64 2, .int .i64 2, .int .i64 2] : List Value).length, ([.int .i64 0, .int .i64 6, .int .i64 0, .int .i64 0, .int .i64 0, .int .i64 2, .int .i64 2, .int .i64 2] : List Value)[(row).toNat]'h = .int .i64 (modeAt modes0 (row)) := mode_at modes0 (row)
  generalize modeAt modes0 row = md at hm ⊢
  generalize nameAt names0a row = nm at hb ⊢
  have HB := hR w; go_enter Tryd.func77, Tryd.ntmps77
  go_wp2
  go_region
  go_wp2
  all_goals clear hn
  all_goals (refine bodyPost_ret (v := .agg #[.string (nm), .int .i64 (md)]) (by (simp only [results, Tryd.results77]; go_simp <;> (rfl))) rfl ?_)
  all_goals exact ⟨rfl, blw⟩
set_option maxHeartbeats 1600000 in
theorem spec_l03Zero_1 (row : Int) (w : World) (g0 : 0 ≤ row) (g1 : row < 8) : Calls Tryd.prog 77 #[.int .i64 row, .int .i64 1] w fun e w' => e = .returned (.agg #[.string (opZero row 1).1, .int .i64 (opZero row 1).2]) ∧ Below w.heap.size w w' := by
  by_cases q0 : row = 1
  · subst q0
    rw [show opZero 1 1 = (⟨#[66, 73, 84]⟩, 3) from rfl]
    have HB := hR w; go_enter Tryd.func77, Tryd.ntmps77
    go_wp2
    skip
    all_goals (refine bodyPost_ret (v := .agg #[.string (⟨#[66, 73, 84]⟩), .int .i64 (3)]) (by (simp only [results, Tryd.results77]; go_simp <;> (rfl))) rfl ?_)
    all_goals exact ⟨rfl, blw⟩
  rw [show opZero row 1 = (nameAt names0 row, 3) from by simp [opZero, *]]
  have qb0 : (row == 1) = false := by simpa using q0
  have hn : ∀ h : (row).toNat < ([.string ⟨#[]⟩, .string ⟨#[]⟩, .string ⟨#[]⟩, .string ⟨#[]⟩, .string ⟨#[83, 84, 89]⟩, .string ⟨#[76, 68, 89]⟩, .string ⟨#[67, 80, 89]⟩, .string ⟨#[67, 80, 88]⟩] : List Value).length, ([.string ⟨#[]⟩, .string ⟨#[]⟩, .string ⟨#[]⟩, .string ⟨#[]⟩, .string ⟨#[83, 84, 89]⟩, .string ⟨#[76, 68, 89]⟩, .string ⟨#[67, 80, 89]⟩, .string ⟨#[67, 80, 88]⟩] : List Value)[(row).toNat]'h = .string (nameAt names0 (row)) := name_at names0 (row)
  generalize nameAt names0 row = nm at hn ⊢
  have HB := hR w; go_enter Tryd.func77, Tryd.ntmps77
  go_wp2
  all_goals clear hn
  all_goals (refine bodyPost_ret (v := .agg #[.string (nm), .int .i64 (3)]) (by (simp only [results, Tryd.results77]; go_simp <;> (rfl))) rfl ?_)
  all_goals exact ⟨rfl, blw⟩
set_option maxHeartbeats 1600000 in
theorem spec_l03Zero_2 (row : Int) (w : World) (g0 : 0 ≤ row) (g1 : row < 8) : Calls Tryd.prog 77 #[.int .i64 row, .int .i64 2] w fun e w' => e = .returned (.agg #[.string (opZero row 2).1, .int .i64 (opZero row 2).2]) ∧ Below w.heap.size w w' := by
  rw [show opZero row 2 = (nameAt names0b row, 0) from by simp [opZero, *]]
  have hn : ∀ h : (row).toNat < ([.string ⟨#[]⟩, .string ⟨#[]⟩, .string ⟨#[]⟩, .string ⟨#[]⟩, .string ⟨#[83, 84, 89]⟩, .string ⟨#[76, 68, 89]⟩, .string ⟨#[67, 80, 89]⟩, .string ⟨#[67, 80, 88]⟩] : List Value).length, ([.string ⟨#[]⟩, .string ⟨#[]⟩, .string ⟨#[]⟩, .string ⟨#[]⟩, .string ⟨#[83, 84, 89]⟩, .string ⟨#[76, 68, 89]⟩, .string ⟨#[67, 80, 89]⟩, .string ⟨#[67, 80, 88]⟩] : List Value)[(row).toNat]'h = .string (nameAt names0 (row)) := name_at names0 (row)
  have hb : ∀ h : (row).toNat < ([.string ⟨#[80, 72, 80]⟩, .string ⟨#[80, 76, 80]⟩, .string ⟨#[80, 72, 65]⟩, .string ⟨#[80, 76, 65]⟩, .string ⟨#[68, 69, 89]⟩, .string ⟨#[84, 65, 89]⟩, .string ⟨#[73, 78, 89]⟩, .string ⟨#[73, 78, 88]⟩] : List Value).length, ([.string ⟨#[80, 72, 80]⟩, .string ⟨#[80, 76, 80]⟩, .string ⟨#[80, 72, 65]⟩, .string ⟨#[80, 76, 65]⟩, .string ⟨#[68, 69, 89]⟩, .string ⟨#[84, 65, 89]⟩, .string ⟨#[73, 78, 89]⟩, .string ⟨#[73, 78, 88]⟩] : List Value)[(row).toNat]'h = .string (nameAt names0b (row)) := name_at names0b (row)
  generalize nameAt names0b row = nm at hb ⊢
  have HB := hR w; go_enter Tryd.func77, Tryd.ntmps77
  go_wp2
  all_goals clear hn
  all_goals (refine bodyPost_ret (v := .agg #[.string (nm), .int .i64 (0)]) (by (simp only [results, Tryd.results77]; go_simp <;> (rfl))) rfl ?_)
  all_goals exact ⟨rfl, blw⟩
set_option maxHeartbeats 1600000 in
theorem spec_l03Zero_3 (row : Int) (w : World) (g0 : 0 ≤ row) (g1 : row < 8) : Calls Tryd.prog 77 #[.int .i64 row, .int .i64 3] w fun e w' => e = .returned (.agg #[.string (opZero row 3).1, .int .i64 (opZero row 3).2]) ∧ Below w.heap.size w w' := by
  by_cases q0 : row = 1
  · subst q0
    rw [show opZero 1 3 = (⟨#[66, 73, 84]⟩, 6) from rfl]
    have HB := hR w; go_enter Tryd.func77, Tryd.ntmps77
    go_wp2
    skip
    all_goals (refine bodyPost_ret (v := .agg #[.string (⟨#[66, 73, 84]⟩), .int .i64 (6)]) (by (simp only [results, Tryd.results77]; go_simp <;> (rfl))) rfl ?_)
    all_goals exact ⟨rfl, blw⟩
  by_cases q1 : row = 2
  · subst q1
    rw [show opZero 2 3 = (⟨#[74, 77, 80]⟩, 6) from rfl]
    have HB := hR w; go_enter Tryd.func77, Tryd.ntmps77
    go_wp2
    skip
    all_goals (refine bodyPost_ret (v := .agg #[.string (⟨#[74, 77, 80]⟩), .int .i64 (6)]) (by (simp only [results, Tryd.results77]; go_simp <;> (rfl))) rfl ?_)
    all_goals exact ⟨rfl, blw⟩
  by_cases q2 : row = 3
  · subst q2
    rw [show opZero 3 3 = (⟨#[74, 77, 80]⟩, 9) from rfl]
    have HB := hR w; go_enter Tryd.func77, Tryd.ntmps77
    go_wp2
    skip
    all_goals (refine bodyPost_ret (v := .agg #[.string (⟨#[74, 77, 80]⟩), .int .i64 (9)]) (by (simp only [results, Tryd.results77]; go_simp <;> (rfl))) rfl ?_)
    all_goals exact ⟨rfl, blw⟩
  rw [show opZero row 3 = (nameAt names0 row, 6) from by simp [opZero, *]]
  have qb0 : (row == 1) = false := by simpa using q0
  have qb1 : (row == 2) = false := by simpa using q1
  have qb2 : (row == 3) = false := by simpa using q2
  have hn : ∀ h : (row).toNat < ([.string ⟨#[]⟩, .string ⟨#[]⟩, .string ⟨#[]⟩, .string ⟨#[]⟩, .string ⟨#[83, 84, 89]⟩, .string ⟨#[76, 68, 89]⟩, .string ⟨#[67, 80, 89]⟩, .string ⟨#[67, 80, 88]⟩] : List Value).length, ([.string ⟨#[]⟩, .string ⟨#[]⟩, .string ⟨#[]⟩, .string ⟨#[]⟩, .string ⟨#[83, 84, 89]⟩, .string ⟨#[76, 68, 89]⟩, .string ⟨#[67, 80, 89]⟩, .string ⟨#[67, 80, 88]⟩] : List Value)[(row).toNat]'h = .string (nameAt names0 (row)) := name_at names0 (row)
  generalize nameAt names0 row = nm at hn ⊢
  have HB := hR w; go_enter Tryd.func77, Tryd.ntmps77
  go_wp2
  all_goals clear hn
  all_goals (refine bodyPost_ret (v := .agg #[.string (nm), .int .i64 (6)]) (by (simp only [results, Tryd.results77]; go_simp <;> (rfl))) rfl ?_)
  all_goals exact ⟨rfl, blw⟩
set_option maxHeartbeats 1600000 in
theorem spec_l03Zero_4 (row : Int) (w : World) (g0 : 0 ≤ row) (g1 : row < 8) : Calls Tryd.prog 77 #[.int .i64 row, .int .i64 4] w fun e w' => e = .returned (.agg #[.string (opZero row 4).1, .int .i64 (opZero row 4).2]) ∧ Below w.heap.size w w' := by
  rw [show opZero row 4 = (nameAt names0c row, 12) from by simp [opZero, *]]
  have hn : ∀ h : (row).toNat < ([.string ⟨#[]⟩, .string ⟨#[]⟩, .string ⟨#[]⟩, .string ⟨#[]⟩, .string ⟨#[83, 84, 89]⟩, .string ⟨#[76, 68, 89]⟩, .string ⟨#[67, 80, 89]⟩, .string ⟨#[67, 80, 88]⟩] : List Value).length, ([.string ⟨#[]⟩, .string ⟨#[]⟩, .string ⟨#[]⟩, .string ⟨#[]⟩, .string ⟨#[83, 84, 89]⟩, .string ⟨#[76, 68, 89]⟩, .string ⟨#[67, 80, 89]⟩, .string ⟨#[67, 80, 88]⟩] : List Value)[(row).toNat]'h = .string (nameAt names0 (row)) := name_at names0 (row)
  have hb : ∀ h : (row).toNat < ([.string ⟨#[66, 80, 76]⟩, .string ⟨#[66, 77, 73]⟩, .string ⟨#[66, 86, 67]⟩, .string ⟨#[66, 86, 83]⟩, .string ⟨#[66, 67, 67]⟩, .string ⟨#[66, 67, 83]⟩, .string ⟨#[66, 78, 69]⟩, .string ⟨#[66, 69, 81]⟩] : List Value).length, ([.string ⟨#[66, 80, 76]⟩, .string ⟨#[66, 77, 73]⟩, .string ⟨#[66, 86, 67]⟩, .string ⟨#[66, 86, 83]⟩, .string ⟨#[66, 67, 67]⟩, .string ⟨#[66, 67, 83]⟩, .string ⟨#[66, 78, 69]⟩, .string ⟨#[66, 69, 81]⟩] : List Value)[(row).toNat]'h = .string (nameAt names0c (row)) := name_at names0c (row)
  generalize nameAt names0c row = nm at hb ⊢
  have HB := hR w; go_enter Tryd.func77, Tryd.ntmps77
  go_wp2
  all_goals clear hn
  all_goals (refine bodyPost_ret (v := .agg #[.string (nm), .int .i64 (12)]) (by (simp only [results, Tryd.results77]; go_simp <;> (rfl))) rfl ?_)
  all_goals exact ⟨rfl, blw⟩
set_option maxHeartbeats 1600000 in
theorem spec_l03Zero_5 (row : Int) (w : World) (g0 : 0 ≤ row) (g1 : row < 8) : Calls Tryd.prog 77 #[.int .i64 row, .int .i64 5] w fun e w' => e = .returned (.agg #[.string (opZero row 5).1, .int .i64 (opZero row 5).2]) ∧ Below w.heap.size w w' := by
  by_cases q0 : row = 4
  · subst q0
    rw [show opZero 4 5 = (nameAt names0 4, 4) from rfl]
    have HB := hR w; go_enter Tryd.func77, Tryd.ntmps77
    go_wp2
    skip
    all_goals (refine bodyPost_ret (v := .agg #[.string (nameAt names0 4), .int .i64 (4)]) (by (simp only [results, Tryd.results77]; go_simp <;> (rfl))) rfl ?_)
    all_goals exact ⟨rfl, blw⟩
  by_cases q1 : row = 5
  · subst q1
    rw [show opZero 5 5 = (nameAt names0 5, 4) from rfl]
    have HB := hR w; go_enter Tryd.func77, Tryd.ntmps77
    go_wp2
    skip
    all_goals (refine bodyPost_ret (v := .agg #[.string (nameAt names0 5), .int .i64 (4)]) (by (simp only [results, Tryd.results77]; go_simp <;> (rfl))) rfl ?_)
    all_goals exact ⟨rfl, blw⟩
  rw [show opZero row 5 = (⟨#[]⟩, 0) from by simp [opZero, *]]
  have qb0 : (row == 4) = false := by simpa using q0
  have qb1 : (row == 5) = false := by simpa using q1
  have hn : ∀ h : (row).toNat < ([.string ⟨#[]⟩, .string ⟨#[]⟩, .string ⟨#[]⟩, .string ⟨#[]⟩, .string ⟨#[83, 84, 89]⟩, .string ⟨#[76, 68, 89]⟩, .string ⟨#[67, 80, 89]⟩, .string ⟨#[67, 80, 88]⟩] : List Value).length, ([.string ⟨#[]⟩, .string ⟨#[]⟩, .string ⟨#[]⟩, .string ⟨#[]⟩, .string ⟨#[83, 84, 89]⟩, .string ⟨#[76, 68, 89]⟩, .string ⟨#[67, 80, 89]⟩, .string ⟨#[67, 80, 88]⟩] : List Value)[(row).toNat]'h = .string (nameAt names0 (row)) := name_at names0 (row)
  have HB := hR w; go_enter Tryd.func77, Tryd.ntmps77
  go_wp2
  all_goals clear hn
  all_goals (refine bodyPost_ret (v := .agg #[.string (⟨#[]⟩), .int .i64 (0)]) (by (simp only [results, Tryd.results77]; go_simp <;> (rfl))) rfl ?_)
  all_goals exact ⟨rfl, blw⟩
set_option maxHeartbeats 1600000 in
theorem spec_l03Zero_6 (row : Int) (w : World) (g0 : 0 ≤ row) (g1 : row < 8) : Calls Tryd.prog 77 #[.int .i64 row, .int .i64 6] w fun e w' => e = .returned (.agg #[.string (opZero row 6).1, .int .i64 (opZero row 6).2]) ∧ Below w.heap.size w w' := by
  rw [show opZero row 6 = (nameAt names0d row, 0) from by simp [opZero, *]]
  have hn : ∀ h : (row).toNat < ([.string ⟨#[]⟩, .string ⟨#[]⟩, .string ⟨#[]⟩, .string ⟨#[]⟩, .string ⟨#[83, 84, 89]⟩, .string ⟨#[76, 68, 89]⟩, .string ⟨#[67, 80, 89]⟩, .string ⟨#[67, 80, 88]⟩] : List Value).length, ([.string ⟨#[]⟩, .string ⟨#[]⟩, .string ⟨#[]⟩, .string ⟨#[]⟩, .string ⟨#[83, 84, 89]⟩, .string ⟨#[76, 68, 89]⟩, .string ⟨#[67, 80, 89]⟩, .string ⟨#[67, 80, 88]⟩] : List Value)[(row).toNat]'h = .string (nameAt names0 (row)) := name_at names0 (row)
  have hb : ∀ h : (row).toNat < ([.string ⟨#[67, 76, 67]⟩, .string ⟨#[83, 69, 67]⟩, .string ⟨#[67, 76, 73]⟩, .string ⟨#[83, 69, 73]⟩, .string ⟨#[84, 89, 65]⟩, .string ⟨#[67, 76, 86]⟩, .string ⟨#[67, 76, 68]⟩, .string ⟨#[83, 69, 68]⟩] : List Value).length, ([.string ⟨#[67, 76, 67]⟩, .string ⟨#[83, 69, 67]⟩, .string ⟨#[67, 76, 73]⟩, .string ⟨#[83, 69, 73]⟩, .string ⟨#[84, 89, 65]⟩, .string ⟨#[67, 76, 86]⟩, .string ⟨#[67, 76, 68]⟩, .string ⟨#[83, 69, 68]⟩] : List Value)[(row).toNat]'h = .string (nameAt names0d (row)) := name_at names0d (row)
  generalize nameAt names0d row = nm at hb ⊢
  have HB := hR w; go_enter Tryd.func77, Tryd.ntmps77
  go_wp2
  all_goals clear hn
  all_goals (refine bodyPost_ret (v := .agg #[.string (nm), .int .i64 (0)]) (by (simp only [results, Tryd.results77]; go_simp <;> (rfl))) rfl ?_)
  all_goals exact ⟨rfl, blw⟩
set_option maxHeartbeats 1600000 in
theorem spec_l03Zero_7 (row : Int) (w : World) (g0 : 0 ≤ row) (g1 : row < 8) : Calls Tryd.prog 77 #[.int .i64 row, .int .i64 7] w fun e w' => e = .returned (.agg #[.string (opZero row 7).1, .int .i64 (opZero row 7).2]) ∧ Below w.heap.size w w' := by
  by_cases q0 : row = 5
  · subst q0
    rw [show opZero 5 7 = (nameAt names0 5, 7) from rfl]
    have HB := hR w; go_enter Tryd.func77, Tryd.ntmps77
    go_wp2
    skip
    all_goals (refine bodyPost_ret (v := .agg #[.string (nameAt names0 5), .int .i64 (7)]) (by (simp only [results, Tryd.results77]; go_simp <;> (rfl))) rfl ?_)
    all_goals exact ⟨rfl, blw⟩
  rw [show opZero row 7 = (⟨#[]⟩, 0) from by simp [opZero, *]]
  have qb0 : (row == 5) = false := by simpa using q0
  have hn : ∀ h : (row).toNat < ([.string ⟨#[]⟩, .string ⟨#[]⟩, .string ⟨#[]⟩, .string ⟨#[]⟩, .string ⟨#[83, 84, 89]⟩, .string ⟨#[76, 68, 89]⟩, .string ⟨#[67, 80, 89]⟩, .string ⟨#[67, 80, 88]⟩] : List Value).length, ([.string ⟨#[]⟩, .string ⟨#[]⟩, .string ⟨#[]⟩, .string ⟨#[]⟩, .string ⟨#[83, 84, 89]⟩, .string ⟨#[76, 68, 89]⟩, .string ⟨#[67, 80, 89]⟩, .string ⟨#[67, 80, 88]⟩] : List Value)[(row).toNat]'h = .string (nameAt names0 (row)) := name_at names0 (row)
  have HB := hR w; go_enter Tryd.func77, Tryd.ntmps77
  go_wp2
  all_goals clear hn
  all_goals (refine bodyPost_ret (v := .agg #[.string (⟨#[]⟩), .int .i64 (0)]) (by (simp only [results, Tryd.results77]; go_simp <;> (rfl))) rfl ?_)
  all_goals exact ⟨rfl, blw⟩
theorem spec_l03Two (row part : Int) (w : World) (g0 : 0 ≤ row) (g1 : row < 8) (h0 : 0 ≤ part) (h1 : part < 8) : Calls Tryd.prog 79 #[.int .i64 row, .int .i64 part] w fun e w' => e = .returned (.agg #[.string (opTwo row part).1, .int .i64 (opTwo row part).2]) ∧ Below w.heap.size w w' := by
  have hp : part = 0 ∨ part = 1 ∨ part = 2 ∨ part = 3 ∨ part = 4 ∨ part = 5 ∨ part = 6 ∨ part = 7 := by omega
  rcases hp with rfl | rfl | rfl | rfl | rfl | rfl | rfl | rfl
  · exact spec_l03Two_0 row w g0 g1
  · exact spec_l03Two_1 row w g0 g1
  · exact spec_l03Two_2 row w g0 g1
  · exact spec_l03Two_3 row w g0 g1
  · exact spec_l03Two_4 row w g0 g1
  · exact spec_l03Two_5 row w g0 g1
  · exact spec_l03Two_6 row w g0 g1
  · exact spec_l03Two_7 row w g0 g1
theorem spec_l03Zero (row part : Int) (w : World) (g0 : 0 ≤ row) (g1 : row < 8) (h0 : 0 ≤ part) (h1 : part < 8) : Calls Tryd.prog 77 #[.int .i64 row, .int .i64 part] w fun e w' => e = .returned (.agg #[.string (opZero row part).1, .int .i64 (opZero row part).2]) ∧ Below w.heap.size w w' := by
  have hp : part = 0 ∨ part = 1 ∨ part = 2 ∨ part = 3 ∨ part = 4 ∨ part = 5 ∨ part = 6 ∨ part = 7 := by omega
  rcases hp with rfl | rfl | rfl | rfl | rfl | rfl | rfl | rfl
  · exact spec_l03Zero_0 row w g0 g1
  · exact spec_l03Zero_1 row w g0 g1
  · exact spec_l03Zero_2 row w g0 g1
  · exact spec_l03Zero_3 row w g0 g1
  · exact spec_l03Zero_4 row w g0 g1
  · exact spec_l03Zero_5 row w g0 g1
  · exact spec_l03Zero_6 row w g0 g1
  · exact spec_l03Zero_7 row w g0 g1
end Go.Proofs.YthlmddcjbhacmaaDoor
