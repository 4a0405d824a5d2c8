/- The operations by their bytes: names and modes, as the reference's tables have them. -/
import Derived.Test.YtoncmhfmkfeolaaGreatDoorGA
set_option linter.unusedVariables false
set_option linter.unusedSimpArgs false
namespace Go.Proofs.YtoncmhfmkfeolaaGreatDoor
open Go.RowKit Go.Proofs.YtoncmhfmkfeolaaGreatDoorW.PrintWords
def nameAt (L : List ByteArray) (r : Int) : ByteArray:=L.getD r.toNat ⟨#[]⟩
def modeAt (L : List Int) (r : Int) : Int:=L.getD r.toNat 0
theorem name_at (L : List ByteArray) (r : Int) : ∀ h : r.toNat < (L.map Value.string).length,(L.map Value.string)[r.toNat]'h = .string (nameAt L r):=fun h => by
  have : r.toNat < L.length:=by simpa using h
  simp [nameAt,List.getD_eq_getElem?_getD,this]
theorem mode_at (L : List Int) (r : Int) : ∀ h : r.toNat < (L.map (Value.int .i64)).length,(L.map (Value.int .i64))[r.toNat]'h = .int .i64 (modeAt L r):=fun h => by
  have : r.toNat < L.length:=by simpa using h
  simp [modeAt,List.getD_eq_getElem?_getD,this]
def names1 : List ByteArray:=[⟨#[79,82,65]⟩,⟨#[65,78,68]⟩,⟨#[69,79,82]⟩,⟨#[65,68,67]⟩,⟨#[83,84,65]⟩,⟨#[76,68,65]⟩,⟨#[67,77,80]⟩,⟨#[83,66,67]⟩]
def modes1 : List Int:=[10,3,2,6,11,4,8,7]
def opOne (row part : Int) : ByteArray × Int:=if row = 4∧part = 2 then (⟨#[]⟩,0) else (nameAt names1 row,modeAt modes1 part)
set_option maxHeartbeats 1600000 in
theorem spec_l03One (row part : Int) (w : World) (g0 : 0 ≤ row) (g1 : row < 8) (h0 : 0 ≤ part) (h1 : part < 8) : Calls Tryz.prog 193 #[.int .i64 row,.int .i64 part] w fun e w' => e = .returned (.agg #[.string (opOne row part).1,.int .i64 (opOne row part).2])∧Below w.heap.size w w':=by
  by_cases hq : row = 4∧part = 2
  · obtain ⟨rfl,rfl⟩:=hq
    have HB:=hR w;go_enter Tryz.func193,Tryz.ntmps193
    go_wp2
    (refine bodyPost_ret (v:=.agg #[.string ⟨#[]⟩,.int .i64 0]) (by (simp only [results,Tryz.results193];go_simp <;> (rfl))) rfl ?_)
    exact ⟨rfl,blw⟩
  · have e : opOne row part = (nameAt names1 row,modeAt modes1 part):=if_neg hq
    rw [e]
    have hn : ∀ h : row.toNat < ([.string ⟨#[79,82,65]⟩,.string ⟨#[65,78,68]⟩,.string ⟨#[69,79,82]⟩,.string ⟨#[65,68,67]⟩,.string ⟨#[83,84,65]⟩,.string ⟨#[76,68,65]⟩,.string ⟨#[67,77,80]⟩,.string ⟨#[83,66,67]⟩] : List Value).length,([.string ⟨#[79,82,65]⟩,.string ⟨#[65,78,68]⟩,.string ⟨#[69,79,82]⟩,.string ⟨#[65,68,67]⟩,.string ⟨#[83,84,65]⟩,.string ⟨#[76,68,65]⟩,.string ⟨#[67,77,80]⟩,.string ⟨#[83,66,67]⟩] : List Value)[row.toNat]'h = .string (nameAt names1 row):=name_at names1 row
    have hm : ∀ h : part.toNat < ([.int .i64 10,.int .i64 3,.int .i64 2,.int .i64 6,.int .i64 11,.int .i64 4,.int .i64 8,.int .i64 7] : List Value).length,([.int .i64 10,.int .i64 3,.int .i64 2,.int .i64 6,.int .i64 11,.int .i64 4,.int .i64 8,.int .i64 7] : List Value)[part.toNat]'h = .int .i64 (modeAt modes1 part):=mode_at modes1 part
    generalize modeAt modes1 part = md at hm ⊢
    by_cases hr : row = 4
    · subst hr
      have hp : ¬ part = 2:=fun h => hq ⟨rfl,h⟩
      clear hn e hq
      have HB:=hR w;go_enter Tryz.func193,Tryz.ntmps193
      go_wp2_with fail
      go_region
      go_wp2_with fail
      (refine bodyPost_ret (v:=.agg #[.string ⟨#[83,84,65]⟩,.int .i64 md]) (by (simp only [results,Tryz.results193];go_simp <;> (rfl))) rfl ?_)
      exact ⟨rfl,blw⟩
    · generalize nameAt names1 row = nm at hn ⊢
      clear e hq
      have HB:=hR w;go_enter Tryz.func193,Tryz.ntmps193
      go_wp2_with fail
      go_region
      go_wp2_with fail
      (refine bodyPost_ret (v:=.agg #[.string nm,.int .i64 md]) (by (simp only [results,Tryz.results193];go_simp <;> (rfl))) rfl ?_)
      exact ⟨rfl,blw⟩
open Go.RowKit Go.Proofs.YtoncmhfmkfeolaaGreatDoorW.PrintWords
def names2 : List ByteArray:=[⟨#[65,83,76]⟩,⟨#[82,79,76]⟩,⟨#[76,83,82]⟩,⟨#[82,79,82]⟩,⟨#[83,84,88]⟩,⟨#[76,68,88]⟩,⟨#[68,69,67]⟩,⟨#[73,78,67]⟩]
def names2b : List ByteArray:=[⟨#[84,88,65]⟩,⟨#[84,65,88]⟩,⟨#[68,69,88]⟩,⟨#[78,79,80]⟩]
def names2c : List ByteArray:=[⟨#[84,88,83]⟩,⟨#[84,83,88]⟩]
def names0 : List ByteArray:=[⟨#[]⟩,⟨#[]⟩,⟨#[]⟩,⟨#[]⟩,⟨#[83,84,89]⟩,⟨#[76,68,89]⟩,⟨#[67,80,89]⟩,⟨#[67,80,88]⟩]
def names0a : List ByteArray:=[⟨#[66,82,75]⟩,⟨#[74,83,82]⟩,⟨#[82,84,73]⟩,⟨#[82,84,83]⟩,⟨#[]⟩,⟨#[76,68,89]⟩,⟨#[67,80,89]⟩,⟨#[67,80,88]⟩]
def names0b : List ByteArray:=[⟨#[80,72,80]⟩,⟨#[80,76,80]⟩,⟨#[80,72,65]⟩,⟨#[80,76,65]⟩,⟨#[68,69,89]⟩,⟨#[84,65,89]⟩,⟨#[73,78,89]⟩,⟨#[73,78,88]⟩]
def names0c : List ByteArray:=[⟨#[66,80,76]⟩,⟨#[66,77,73]⟩,⟨#[66,86,67]⟩,⟨#[66,86,83]⟩,⟨#[66,67,67]⟩,⟨#[66,67,83]⟩,⟨#[66,78,69]⟩,⟨#[66,69,81]⟩]
def names0d : List ByteArray:=[⟨#[67,76,67]⟩,⟨#[83,69,67]⟩,⟨#[67,76,73]⟩,⟨#[83,69,73]⟩,⟨#[84,89,65]⟩,⟨#[67,76,86]⟩,⟨#[67,76,68]⟩,⟨#[83,69,68]⟩]
def modes0 : List Int:=[0,6,0,0,0,2,2,2]
def opTwo (row part : Int) : ByteArray × Int:=if part = 0 then (if row = 5 then (nameAt names2 row,2) else (⟨#[]⟩,0)) else if part = 1 then (nameAt names2 row,3) else if part = 2 then (if row < 4 then (nameAt names2 row,1) else (nameAt names2b (row - 4),0)) else if part = 3 then (nameAt names2 row,6) else if part = 5 then (if row = 4 ∨ row = 5 then (nameAt names2 row,5) else (nameAt names2 row,4)) else if part = 6 then (if row = 4 ∨ row = 5 then (nameAt names2c (row - 4),0) else (⟨#[]⟩,0)) else if part = 7 then (if row = 4 then (⟨#[]⟩,0) else if row = 5 then (nameAt names2 row,8) else (nameAt names2 row,7)) else (⟨#[]⟩,0)
def opZero (row part : Int) : ByteArray × Int:=if part = 0 then (nameAt names0a row,modeAt modes0 row) else if part = 1 then (if row = 1 then (⟨#[66,73,84]⟩,3) else (nameAt names0 row,3)) else if part = 2 then (nameAt names0b row,0) else if part = 3 then (if row = 1 then (⟨#[66,73,84]⟩,6) else if row = 2 then (⟨#[74,77,80]⟩,6) else if row = 3 then (⟨#[74,77,80]⟩,9) else (nameAt names0 row,6)) else if part = 4 then (nameAt names0c row,12) else if part = 5 then (if row = 4 ∨ row = 5 then (nameAt names0 row,4) else (⟨#[]⟩,0)) else if part = 6 then (nameAt names0d row,0) else if part = 7 then (if row = 5 then (nameAt names0 row,7) else (⟨#[]⟩,0)) else (⟨#[]⟩,0)
set_option maxHeartbeats 1600000 in
theorem spec_l03Two_0 (row : Int) (w : World) (g0 : 0 ≤ row) (g1 : row < 8) : Calls Tryz.prog 194 #[.int .i64 row,.int .i64 0] w fun e w' => e = .returned (.agg #[.string (opTwo row 0).1,.int .i64 (opTwo row 0).2])∧Below w.heap.size w w':=by
  by_cases q0 : row = 5
  · subst q0
    rw [show opTwo 5 0 = (nameAt names2 5,2) from rfl]
    have HB:=hR w;go_enter Tryz.func194,Tryz.ntmps194
    go_wp2
    skip
    all_goals (refine bodyPost_ret (v:=.agg #[.string (nameAt names2 5),.int .i64 (2)]) (by (simp only [results,Tryz.results194];go_simp <;> (rfl))) rfl ?_)
    all_goals exact ⟨rfl,blw⟩
  rw [show opTwo row 0 = (⟨#[]⟩,0) from by simp [opTwo, *]]
  have qb0 : (row == 5) = false:=by simpa using q0
  have hn : ∀ h : (row).toNat < ([.string ⟨#[65,83,76]⟩,.string ⟨#[82,79,76]⟩,.string ⟨#[76,83,82]⟩,.string ⟨#[82,79,82]⟩,.string ⟨#[83,84,88]⟩,.string ⟨#[76,68,88]⟩,.string ⟨#[68,69,67]⟩,.string ⟨#[73,78,67]⟩] : List Value).length,([.string ⟨#[65,83,76]⟩,.string ⟨#[82,79,76]⟩,.string ⟨#[76,83,82]⟩,.string ⟨#[82,79,82]⟩,.string ⟨#[83,84,88]⟩,.string ⟨#[76,68,88]⟩,.string ⟨#[68,69,67]⟩,.string ⟨#[73,78,67]⟩] : List Value)[(row).toNat]'h = .string (nameAt names2 (row)):=name_at names2 (row)
  have HB:=hR w;go_enter Tryz.func194,Tryz.ntmps194
  go_wp2
  all_goals clear hn
  all_goals (refine bodyPost_ret (v:=.agg #[.string (⟨#[]⟩),.int .i64 (0)]) (by (simp only [results,Tryz.results194];go_simp <;> (rfl))) rfl ?_)
  all_goals exact ⟨rfl,blw⟩
set_option maxHeartbeats 1600000 in
theorem spec_l03Two_1 (row : Int) (w : World) (g0 : 0 ≤ row) (g1 : row < 8) : Calls Tryz.prog 194 #[.int .i64 row,.int .i64 1] w fun e w' => e = .returned (.agg #[.string (opTwo row 1).1,.int .i64 (opTwo row 1).2])∧Below w.heap.size w w':=by
  rw [show opTwo row 1 = (nameAt names2 row,3) from by simp [opTwo, *]]
  have hn : ∀ h : (row).toNat < ([.string ⟨#[65,83,76]⟩,.string ⟨#[82,79,76]⟩,.string ⟨#[76,83,82]⟩,.string ⟨#[82,79,82]⟩,.string ⟨#[83,84,88]⟩,.string ⟨#[76,68,88]⟩,.string ⟨#[68,69,67]⟩,.string ⟨#[73,78,67]⟩] : List Value).length,([.string ⟨#[65,83,76]⟩,.string ⟨#[82,79,76]⟩,.string ⟨#[76,83,82]⟩,.string ⟨#[82,79,82]⟩,.string ⟨#[83,84,88]⟩,.string ⟨#[76,68,88]⟩,.string ⟨#[68,69,67]⟩,.string ⟨#[73,78,67]⟩] : List Value)[(row).toNat]'h = .string (nameAt names2 (row)):=name_at names2 (row)
  generalize nameAt names2 row = nm at hn ⊢
  have HB:=hR w;go_enter Tryz.func194,Tryz.ntmps194
  go_wp2
  all_goals clear hn
  all_goals (refine bodyPost_ret (v:=.agg #[.string (nm),.int .i64 (3)]) (by (simp only [results,Tryz.results194];go_simp <;> (rfl))) rfl ?_)
  all_goals exact ⟨rfl,blw⟩
set_option maxHeartbeats 1600000 in
theorem spec_l03Two_2 (row : Int) (w : World) (g0 : 0 ≤ row) (g1 : row < 8) : Calls Tryz.prog 194 #[.int .i64 row,.int .i64 2] w fun e w' => e = .returned (.agg #[.string (opTwo row 2).1,.int .i64 (opTwo row 2).2])∧Below w.heap.size w w':=by
  by_cases q0 : row < 4
  · rw [show opTwo row 2 = (nameAt names2 row,1) from by simp [opTwo, *]]
    have hn : ∀ h : (row).toNat < ([.string ⟨#[65,83,76]⟩,.string ⟨#[82,79,76]⟩,.string ⟨#[76,83,82]⟩,.string ⟨#[82,79,82]⟩,.string ⟨#[83,84,88]⟩,.string ⟨#[76,68,88]⟩,.string ⟨#[68,69,67]⟩,.string ⟨#[73,78,67]⟩] : List Value).length,([.string ⟨#[65,83,76]⟩,.string ⟨#[82,79,76]⟩,.string ⟨#[76,83,82]⟩,.string ⟨#[82,79,82]⟩,.string ⟨#[83,84,88]⟩,.string ⟨#[76,68,88]⟩,.string ⟨#[68,69,67]⟩,.string ⟨#[73,78,67]⟩] : List Value)[(row).toNat]'h = .string (nameAt names2 (row)):=name_at names2 (row)
    generalize nameAt names2 row = nm at hn ⊢
    have HB:=hR w;go_enter Tryz.func194,Tryz.ntmps194
    go_wp2
    all_goals clear hn
    all_goals (refine bodyPost_ret (v:=.agg #[.string (nm),.int .i64 (1)]) (by (simp only [results,Tryz.results194];go_simp <;> (rfl))) rfl ?_)
    all_goals exact ⟨rfl,blw⟩
  by_cases q1 : row = 4
  · subst q1
    rw [show opTwo 4 2 = (nameAt names2b (4 - 4),0) from rfl]
    have HB:=hR w;go_enter Tryz.func194,Tryz.ntmps194
    go_wp2
    skip
    all_goals (refine bodyPost_ret (v:=.agg #[.string (nameAt names2b (4 - 4)),.int .i64 (0)]) (by (simp only [results,Tryz.results194];go_simp <;> (rfl))) rfl ?_)
    all_goals exact ⟨rfl,blw⟩
  by_cases q2 : row = 5
  · subst q2
    rw [show opTwo 5 2 = (nameAt names2b (5 - 4),0) from rfl]
    have HB:=hR w;go_enter Tryz.func194,Tryz.ntmps194
    go_wp2
    skip
    all_goals (refine bodyPost_ret (v:=.agg #[.string (nameAt names2b (5 - 4)),.int .i64 (0)]) (by (simp only [results,Tryz.results194];go_simp <;> (rfl))) rfl ?_)
    all_goals exact ⟨rfl,blw⟩
  by_cases q3 : row = 6
  · subst q3
    rw [show opTwo 6 2 = (nameAt names2b (6 - 4),0) from rfl]
    have HB:=hR w;go_enter Tryz.func194,Tryz.ntmps194
    go_wp2
    skip
    all_goals (refine bodyPost_ret (v:=.agg #[.string (nameAt names2b (6 - 4)),.int .i64 (0)]) (by (simp only [results,Tryz.results194];go_simp <;> (rfl))) rfl ?_)
    all_goals exact ⟨rfl,blw⟩
  by_cases q4 : row = 7
  · subst q4
    rw [show opTwo 7 2 = (nameAt names2b (7 - 4),0) from rfl]
    have HB:=hR w;go_enter Tryz.func194,Tryz.ntmps194
    go_wp2
    skip
    all_goals (refine bodyPost_ret (v:=.agg #[.string (nameAt names2b (7 - 4)),.int .i64 (0)]) (by (simp only [results,Tryz.results194];go_simp <;> (rfl))) rfl ?_)
    all_goals exact ⟨rfl,blw⟩
  exact absurd g1 (by omega)
set_option maxHeartbeats 1600000 in
theorem spec_l03Two_3 (row : Int) (w : World) (g0 : 0 ≤ row) (g1 : row < 8) : Calls Tryz.prog 194 #[.int .i64 row,.int .i64 3] w fun e w' => e = .returned (.agg #[.string (opTwo row 3).1,.int .i64 (opTwo row 3).2])∧Below w.heap.size w w':=by
  rw [show opTwo row 3 = (nameAt names2 row,6) from by simp [opTwo, *]]
  have hn : ∀ h : (row).toNat < ([.string ⟨#[65,83,76]⟩,.string ⟨#[82,79,76]⟩,.string ⟨#[76,83,82]⟩,.string ⟨#[82,79,82]⟩,.string ⟨#[83,84,88]⟩,.string ⟨#[76,68,88]⟩,.string ⟨#[68,69,67]⟩,.string ⟨#[73,78,67]⟩] : List Value).length,([.string ⟨#[65,83,76]⟩,.string ⟨#[82,79,76]⟩,.string ⟨#[76,83,82]⟩,.string ⟨#[82,79,82]⟩,.string ⟨#[83,84,88]⟩,.string ⟨#[76,68,88]⟩,.string ⟨#[68,69,67]⟩,.string ⟨#[73,78,67]⟩] : List Value)[(row).toNat]'h = .string (nameAt names2 (row)):=name_at names2 (row)
  generalize nameAt names2 row = nm at hn ⊢
  have HB:=hR w;go_enter Tryz.func194,Tryz.ntmps194
  go_wp2
  all_goals clear hn
  all_goals (refine bodyPost_ret (v:=.agg #[.string (nm),.int .i64 (6)]) (by (simp only [results,Tryz.results194];go_simp <;> (rfl))) rfl ?_)
  all_goals exact ⟨rfl,blw⟩
set_option maxHeartbeats 1600000 in
theorem spec_l03Two_4 (row : Int) (w : World) (g0 : 0 ≤ row) (g1 : row < 8) : Calls Tryz.prog 194 #[.int .i64 row,.int .i64 4] w fun e w' => e = .returned (.agg #[.string (opTwo row 4).1,.int .i64 (opTwo row 4).2])∧Below w.heap.size w w':=by
  rw [show opTwo row 4 = (⟨#[]⟩,0) from by simp [opTwo, *]]
  have hn : ∀ h : (row).toNat < ([.string ⟨#[65,83,76]⟩,.string ⟨#[82,79,76]⟩,.string ⟨#[76,83,82]⟩,.string ⟨#[82,79,82]⟩,.string ⟨#[83,84,88]⟩,.string ⟨#[76,68,88]⟩,.string ⟨#[68,69,67]⟩,.string ⟨#[73,78,67]⟩] : List Value).length,([.string ⟨#[65,83,76]⟩,.string ⟨#[82,79,76]⟩,.string ⟨#[76,83,82]⟩,.string ⟨#[82,79,82]⟩,.string ⟨#[83,84,88]⟩,.string ⟨#[76,68,88]⟩,.string ⟨#[68,69,67]⟩,.string ⟨#[73,78,67]⟩] : List Value)[(row).toNat]'h = .string (nameAt names2 (row)):=name_at names2 (row)
  have HB:=hR w;go_enter Tryz.func194,Tryz.ntmps194
  go_wp2
  all_goals clear hn
  all_goals (refine bodyPost_ret (v:=.agg #[.string (⟨#[]⟩),.int .i64 (0)]) (by (simp only [results,Tryz.results194];go_simp <;> (rfl))) rfl ?_)
  all_goals exact ⟨rfl,blw⟩
set_option maxHeartbeats 1600000 in
theorem spec_l03Two_5 (row : Int) (w : World) (g0 : 0 ≤ row) (g1 : row < 8) : Calls Tryz.prog 194 #[.int .i64 row,.int .i64 5] w fun e w' => e = .returned (.agg #[.string (opTwo row 5).1,.int .i64 (opTwo row 5).2])∧Below w.heap.size w w':=by
  by_cases q0 : row = 4
  · subst q0
    rw [show opTwo 4 5 = (nameAt names2 4,5) from rfl]
    have HB:=hR w;go_enter Tryz.func194,Tryz.ntmps194
    go_wp2
    skip
    all_goals (refine bodyPost_ret (v:=.agg #[.string (nameAt names2 4),.int .i64 (5)]) (by (simp only [results,Tryz.results194];go_simp <;> (rfl))) rfl ?_)
    all_goals exact ⟨rfl,blw⟩
  by_cases q1 : row = 5
  · subst q1
    rw [show opTwo 5 5 = (nameAt names2 5,5) from rfl]
    have HB:=hR w;go_enter Tryz.func194,Tryz.ntmps194
    go_wp2
    skip
    all_goals (refine bodyPost_ret (v:=.agg #[.string (nameAt names2 5),.int .i64 (5)]) (by (simp only [results,Tryz.results194];go_simp <;> (rfl))) rfl ?_)
    all_goals exact ⟨rfl,blw⟩
  rw [show opTwo row 5 = (nameAt names2 row,4) from by simp [opTwo, *]]
  have qb0 : (row == 4) = false:=by simpa using q0
  have qb1 : (row == 5) = false:=by simpa using q1
  have hn : ∀ h : (row).toNat < ([.string ⟨#[65,83,76]⟩,.string ⟨#[82,79,76]⟩,.string ⟨#[76,83,82]⟩,.string ⟨#[82,79,82]⟩,.string ⟨#[83,84,88]⟩,.string ⟨#[76,68,88]⟩,.string ⟨#[68,69,67]⟩,.string ⟨#[73,78,67]⟩] : List Value).length,([.string ⟨#[65,83,76]⟩,.string ⟨#[82,79,76]⟩,.string ⟨#[76,83,82]⟩,.string ⟨#[82,79,82]⟩,.string ⟨#[83,84,88]⟩,.string ⟨#[76,68,88]⟩,.string ⟨#[68,69,67]⟩,.string ⟨#[73,78,67]⟩] : List Value)[(row).toNat]'h = .string (nameAt names2 (row)):=name_at names2 (row)
  generalize nameAt names2 row = nm at hn ⊢
  have HB:=hR w;go_enter Tryz.func194,Tryz.ntmps194
  go_wp2
  all_goals clear hn
  all_goals (refine bodyPost_ret (v:=.agg #[.string (nm),.int .i64 (4)]) (by (simp only [results,Tryz.results194];go_simp <;> (rfl))) rfl ?_)
  all_goals exact ⟨rfl,blw⟩
set_option maxHeartbeats 1600000 in
theorem spec_l03Two_6 (row : Int) (w : World) (g0 : 0 ≤ row) (g1 : row < 8) : Calls Tryz.prog 194 #[.int .i64 row,.int .i64 6] w fun e w' => e = .returned (.agg #[.string (opTwo row 6).1,.int .i64 (opTwo row 6).2])∧Below w.heap.size w w':=by
  by_cases q0 : row = 4
  · subst q0
    rw [show opTwo 4 6 = (nameAt names2c (4 - 4),0) from rfl]
    have HB:=hR w;go_enter Tryz.func194,Tryz.ntmps194
    go_wp2
    skip
    all_goals (refine bodyPost_ret (v:=.agg #[.string (nameAt names2c (4 - 4)),.int .i64 (0)]) (by (simp only [results,Tryz.results194];go_simp <;> (rfl))) rfl ?_)
    all_goals exact ⟨rfl,blw⟩
  by_cases q1 : row = 5
  · subst q1
    rw [show opTwo 5 6 = (nameAt names2c (5 - 4),0) from rfl]
    have HB:=hR w;go_enter Tryz.func194,Tryz.ntmps194
    go_wp2
    skip
    all_goals (refine bodyPost_ret (v:=.agg #[.string (nameAt names2c (5 - 4)),.int .i64 (0)]) (by (simp only [results,Tryz.results194];go_simp <;> (rfl))) rfl ?_)
    all_goals exact ⟨rfl,blw⟩
  rw [show opTwo row 6 = (⟨#[]⟩,0) from by simp [opTwo, *]]
  have qb0 : (row == 4) = false:=by simpa using q0
  have qb1 : (row == 5) = false:=by simpa using q1
  have hn : ∀ h : (row).toNat < ([.string ⟨#[65,83,76]⟩,.string ⟨#[82,79,76]⟩,.string ⟨#[76,83,82]⟩,.string ⟨#[82,79,82]⟩,.string ⟨#[83,84,88]⟩,.string ⟨#[76,68,88]⟩,.string ⟨#[68,69,67]⟩,.string ⟨#[73,78,67]⟩] : List Value).length,([.string ⟨#[65,83,76]⟩,.string ⟨#[82,79,76]⟩,.string ⟨#[76,83,82]⟩,.string ⟨#[82,79,82]⟩,.string ⟨#[83,84,88]⟩,.string ⟨#[76,68,88]⟩,.string ⟨#[68,69,67]⟩,.string ⟨#[73,78,67]⟩] : List Value)[(row).toNat]'h = .string (nameAt names2 (row)):=name_at names2 (row)
  have HB:=hR w;go_enter Tryz.func194,Tryz.ntmps194
  go_wp2
  all_goals clear hn
  all_goals (refine bodyPost_ret (v:=.agg #[.string (⟨#[]⟩),.int .i64 (0)]) (by (simp only [results,Tryz.results194];go_simp <;> (rfl))) rfl ?_)
  all_goals exact ⟨rfl,blw⟩
set_option maxHeartbeats 1600000 in
theorem spec_l03Two_7 (row : Int) (w : World) (g0 : 0 ≤ row) (g1 : row < 8) : Calls Tryz.prog 194 #[.int .i64 row,.int .i64 7] w fun e w' => e = .returned (.agg #[.string (opTwo row 7).1,.int .i64 (opTwo row 7).2])∧Below w.heap.size w w':=by
  by_cases q0 : row = 4
  · subst q0
    rw [show opTwo 4 7 = (⟨#[]⟩,0) from rfl]
    have HB:=hR w;go_enter Tryz.func194,Tryz.ntmps194
    go_wp2
    skip
    all_goals (refine bodyPost_ret (v:=.agg #[.string (⟨#[]⟩),.int .i64 (0)]) (by (simp only [results,Tryz.results194];go_simp <;> (rfl))) rfl ?_)
    all_goals exact ⟨rfl,blw⟩
  by_cases q1 : row = 5
  · subst q1
    rw [show opTwo 5 7 = (nameAt names2 5,8) from rfl]
    have HB:=hR w;go_enter Tryz.func194,Tryz.ntmps194
    go_wp2
    skip
    all_goals (refine bodyPost_ret (v:=.agg #[.string (nameAt names2 5),.int .i64 (8)]) (by (simp only [results,Tryz.results194];go_simp <;> (rfl))) rfl ?_)
    all_goals exact ⟨rfl,blw⟩
  rw [show opTwo row 7 = (nameAt names2 row,7) from by simp [opTwo, *]]
  have qb0 : (row == 4) = false:=by simpa using q0
  have qb1 : (row == 5) = false:=by simpa using q1
  have hn : ∀ h : (row).toNat < ([.string ⟨#[65,83,76]⟩,.string ⟨#[82,79,76]⟩,.string ⟨#[76,83,82]⟩,.string ⟨#[82,79,82]⟩,.string ⟨#[83,84,88]⟩,.string ⟨#[76,68,88]⟩,.string ⟨#[68,69,67]⟩,.string ⟨#[73,78,67]⟩] : List Value).length,([.string ⟨#[65,83,76]⟩,.string ⟨#[82,79,76]⟩,.string ⟨#[76,83,82]⟩,.string ⟨#[82,79,82]⟩,.string ⟨#[83,84,88]⟩,.string ⟨#[76,68,88]⟩,.string ⟨#[68,69,67]⟩,.string ⟨#[73,78,67]⟩] : List Value)[(row).toNat]'h = .string (nameAt names2 (row)):=name_at names2 (row)
  generalize nameAt names2 row = nm at hn ⊢
  have HB:=hR w;go_enter Tryz.func194,Tryz.ntmps194
  go_wp2
  all_goals clear hn
  all_goals (refine bodyPost_ret (v:=.agg #[.string (nm),.int .i64 (7)]) (by (simp only [results,Tryz.results194];go_simp <;> (rfl))) rfl ?_)
  all_goals exact ⟨rfl,blw⟩
set_option maxHeartbeats 1600000 in
theorem spec_l03Zero_0 (row : Int) (w : World) (g0 : 0 ≤ row) (g1 : row < 8) : Calls Tryz.prog 192 #[.int .i64 row,.int .i64 0] w fun e w' => e = .returned (.agg #[.string (opZero row 0).1,.int .i64 (opZero row 0).2])∧Below w.heap.size w w':=by
  rw [show opZero row 0 = (nameAt names0a row,modeAt modes0 row) from by simp [opZero, *]]
  have hn : ∀ h : (row).toNat < ([.string ⟨#[]⟩,.string ⟨#[]⟩,.string ⟨#[]⟩,.string ⟨#[]⟩,.string ⟨#[83,84,89]⟩,.string ⟨#[76,68,89]⟩,.string ⟨#[67,80,89]⟩,.string ⟨#[67,80,88]⟩] : List Value).length,([.string ⟨#[]⟩,.string ⟨#[]⟩,.string ⟨#[]⟩,.string ⟨#[]⟩,.string ⟨#[83,84,89]⟩,.string ⟨#[76,68,89]⟩,.string ⟨#[67,80,89]⟩,.string ⟨#[67,80,88]⟩] : List Value)[(row).toNat]'h = .string (nameAt names0 (row)):=name_at names0 (row)
  have hb : ∀ h : (row).toNat < ([.string ⟨#[66,82,75]⟩,.string ⟨#[74,83,82]⟩,.string ⟨#[82,84,73]⟩,.string ⟨#[82,84,83]⟩,.string ⟨#[]⟩,.string ⟨#[76,68,89]⟩,.string ⟨#[67,80,89]⟩,.string ⟨#[67,80,88]⟩] : List Value).length,([.string ⟨#[66,82,75]⟩,.string ⟨#[74,83,82]⟩,.string ⟨#[82,84,73]⟩,.string ⟨#[82,84,83]⟩,.string ⟨#[]⟩,.string ⟨#[76,68,89]⟩,.string ⟨#[67,80,89]⟩,.string ⟨#[67,80,88]⟩] : List Value)[(row).toNat]'h = .string (nameAt names0a (row)):=name_at names0a (row)
  have hm : ∀ h : (row).toNat < ([.int .i64 0,.int .i64 6,.int .i64 0,.int .i64 0,.int .i64 0,.int .i64 2,.int .i64 2,.int .i64 2] : List Value).length,([.int .i64 0,.int .i64 6,.int .i64 0,.int .i64 0,.int .i64 0,.int .i64 2,.int .i64 2,.int .i64 2] : List Value)[(row).toNat]'h = .int .i64 (modeAt modes0 (row)):=mode_at modes0 (row)
  generalize modeAt modes0 row = md at hm ⊢
  generalize nameAt names0a row = nm at hb ⊢
  have HB:=hR w;go_enter Tryz.func192,Tryz.ntmps192
  go_wp2
  go_region
  go_wp2
  all_goals clear hn
  all_goals (refine bodyPost_ret (v:=.agg #[.string (nm),.int .i64 (md)]) (by (simp only [results,Tryz.results192];go_simp <;> (rfl))) rfl ?_)
  all_goals exact ⟨rfl,blw⟩
set_option maxHeartbeats 1600000 in
theorem spec_l03Zero_1 (row : Int) (w : World) (g0 : 0 ≤ row) (g1 : row < 8) : Calls Tryz.prog 192 #[.int .i64 row,.int .i64 1] w fun e w' => e = .returned (.agg #[.string (opZero row 1).1,.int .i64 (opZero row 1).2])∧Below w.heap.size w w':=by
  by_cases q0 : row = 1
  · subst q0
    rw [show opZero 1 1 = (⟨#[66,73,84]⟩,3) from rfl]
    have HB:=hR w;go_enter Tryz.func192,Tryz.ntmps192
    go_wp2
    skip
    all_goals (refine bodyPost_ret (v:=.agg #[.string (⟨#[66,73,84]⟩),.int .i64 (3)]) (by (simp only [results,Tryz.results192];go_simp <;> (rfl))) rfl ?_)
    all_goals exact ⟨rfl,blw⟩
  rw [show opZero row 1 = (nameAt names0 row,3) from by simp [opZero, *]]
  have qb0 : (row == 1) = false:=by simpa using q0
  have hn : ∀ h : (row).toNat < ([.string ⟨#[]⟩,.string ⟨#[]⟩,.string ⟨#[]⟩,.string ⟨#[]⟩,.string ⟨#[83,84,89]⟩,.string ⟨#[76,68,89]⟩,.string ⟨#[67,80,89]⟩,.string ⟨#[67,80,88]⟩] : List Value).length,([.string ⟨#[]⟩,.string ⟨#[]⟩,.string ⟨#[]⟩,.string ⟨#[]⟩,.string ⟨#[83,84,89]⟩,.string ⟨#[76,68,89]⟩,.string ⟨#[67,80,89]⟩,.string ⟨#[67,80,88]⟩] : List Value)[(row).toNat]'h = .string (nameAt names0 (row)):=name_at names0 (row)
  generalize nameAt names0 row = nm at hn ⊢
  have HB:=hR w;go_enter Tryz.func192,Tryz.ntmps192
  go_wp2
  all_goals clear hn
  all_goals (refine bodyPost_ret (v:=.agg #[.string (nm),.int .i64 (3)]) (by (simp only [results,Tryz.results192];go_simp <;> (rfl))) rfl ?_)
  all_goals exact ⟨rfl,blw⟩
set_option maxHeartbeats 1600000 in
theorem spec_l03Zero_2 (row : Int) (w : World) (g0 : 0 ≤ row) (g1 : row < 8) : Calls Tryz.prog 192 #[.int .i64 row,.int .i64 2] w fun e w' => e = .returned (.agg #[.string (opZero row 2).1,.int .i64 (opZero row 2).2])∧Below w.heap.size w w':=by
  rw [show opZero row 2 = (nameAt names0b row,0) from by simp [opZero, *]]
  have hn : ∀ h : (row).toNat < ([.string ⟨#[]⟩,.string ⟨#[]⟩,.string ⟨#[]⟩,.string ⟨#[]⟩,.string ⟨#[83,84,89]⟩,.string ⟨#[76,68,89]⟩,.string ⟨#[67,80,89]⟩,.string ⟨#[67,80,88]⟩] : List Value).length,([.string ⟨#[]⟩,.string ⟨#[]⟩,.string ⟨#[]⟩,.string ⟨#[]⟩,.string ⟨#[83,84,89]⟩,.string ⟨#[76,68,89]⟩,.string ⟨#[67,80,89]⟩,.string ⟨#[67,80,88]⟩] : List Value)[(row).toNat]'h = .string (nameAt names0 (row)):=name_at names0 (row)
  have hb : ∀ h : (row).toNat < ([.string ⟨#[80,72,80]⟩,.string ⟨#[80,76,80]⟩,.string ⟨#[80,72,65]⟩,.string ⟨#[80,76,65]⟩,.string ⟨#[68,69,89]⟩,.string ⟨#[84,65,89]⟩,.string ⟨#[73,78,89]⟩,.string ⟨#[73,78,88]⟩] : List Value).length,([.string ⟨#[80,72,80]⟩,.string ⟨#[80,76,80]⟩,.string ⟨#[80,72,65]⟩,.string ⟨#[80,76,65]⟩,.string ⟨#[68,69,89]⟩,.string ⟨#[84,65,89]⟩,.string ⟨#[73,78,89]⟩,.string ⟨#[73,78,88]⟩] : List Value)[(row).toNat]'h = .string (nameAt names0b (row)):=name_at names0b (row)
  generalize nameAt names0b row = nm at hb ⊢
  have HB:=hR w;go_enter Tryz.func192,Tryz.ntmps192
  go_wp2
  all_goals clear hn
  all_goals (refine bodyPost_ret (v:=.agg #[.string (nm),.int .i64 (0)]) (by (simp only [results,Tryz.results192];go_simp <;> (rfl))) rfl ?_)
  all_goals exact ⟨rfl,blw⟩
set_option maxHeartbeats 1600000 in
theorem spec_l03Zero_3 (row : Int) (w : World) (g0 : 0 ≤ row) (g1 : row < 8) : Calls Tryz.prog 192 #[.int .i64 row,.int .i64 3] w fun e w' => e = .returned (.agg #[.string (opZero row 3).1,.int .i64 (opZero row 3).2])∧Below w.heap.size w w':=by
  by_cases q0 : row = 1
  · subst q0
    rw [show opZero 1 3 = (⟨#[66,73,84]⟩,6) from rfl]
    have HB:=hR w;go_enter Tryz.func192,Tryz.ntmps192
    go_wp2
    skip
    all_goals (refine bodyPost_ret (v:=.agg #[.string (⟨#[66,73,84]⟩),.int .i64 (6)]) (by (simp only [results,Tryz.results192];go_simp <;> (rfl))) rfl ?_)
    all_goals exact ⟨rfl,blw⟩
  by_cases q1 : row = 2
  · subst q1
    rw [show opZero 2 3 = (⟨#[74,77,80]⟩,6) from rfl]
    have HB:=hR w;go_enter Tryz.func192,Tryz.ntmps192
    go_wp2
    skip
    all_goals (refine bodyPost_ret (v:=.agg #[.string (⟨#[74,77,80]⟩),.int .i64 (6)]) (by (simp only [results,Tryz.results192];go_simp <;> (rfl))) rfl ?_)
    all_goals exact ⟨rfl,blw⟩
  by_cases q2 : row = 3
  · subst q2
    rw [show opZero 3 3 = (⟨#[74,77,80]⟩,9) from rfl]
    have HB:=hR w;go_enter Tryz.func192,Tryz.ntmps192
    go_wp2
    skip
    all_goals (refine bodyPost_ret (v:=.agg #[.string (⟨#[74,77,80]⟩),.int .i64 (9)]) (by (simp only [results,Tryz.results192];go_simp <;> (rfl))) rfl ?_)
    all_goals exact ⟨rfl,blw⟩
  rw [show opZero row 3 = (nameAt names0 row,6) from by simp [opZero, *]]
  have qb0 : (row == 1) = false:=by simpa using q0
  have qb1 : (row == 2) = false:=by simpa using q1
  have qb2 : (row == 3) = false:=by simpa using q2
  have hn : ∀ h : (row).toNat < ([.string ⟨#[]⟩,.string ⟨#[]⟩,.string ⟨#[]⟩,.string ⟨#[]⟩,.string ⟨#[83,84,89]⟩,.string ⟨#[76,68,89]⟩,.string ⟨#[67,80,89]⟩,.string ⟨#[67,80,88]⟩] : List Value).length,([.string ⟨#[]⟩,.string ⟨#[]⟩,.string ⟨#[]⟩,.string ⟨#[]⟩,.string ⟨#[83,84,89]⟩,.string ⟨#[76,68,89]⟩,.string ⟨#[67,80,89]⟩,.string ⟨#[67,80,88]⟩] : List Value)[(row).toNat]'h = .string (nameAt names0 (row)):=name_at names0 (row)
  generalize nameAt names0 row = nm at hn ⊢
  have HB:=hR w;go_enter Tryz.func192,Tryz.ntmps192
  go_wp2
  all_goals clear hn
  all_goals (refine bodyPost_ret (v:=.agg #[.string (nm),.int .i64 (6)]) (by (simp only [results,Tryz.results192];go_simp <;> (rfl))) rfl ?_)
  all_goals exact ⟨rfl,blw⟩
set_option maxHeartbeats 1600000 in
theorem spec_l03Zero_4 (row : Int) (w : World) (g0 : 0 ≤ row) (g1 : row < 8) : Calls Tryz.prog 192 #[.int .i64 row,.int .i64 4] w fun e w' => e = .returned (.agg #[.string (opZero row 4).1,.int .i64 (opZero row 4).2])∧Below w.heap.size w w':=by
  rw [show opZero row 4 = (nameAt names0c row,12) from by simp [opZero, *]]
  have hn : ∀ h : (row).toNat < ([.string ⟨#[]⟩,.string ⟨#[]⟩,.string ⟨#[]⟩,.string ⟨#[]⟩,.string ⟨#[83,84,89]⟩,.string ⟨#[76,68,89]⟩,.string ⟨#[67,80,89]⟩,.string ⟨#[67,80,88]⟩] : List Value).length,([.string ⟨#[]⟩,.string ⟨#[]⟩,.string ⟨#[]⟩,.string ⟨#[]⟩,.string ⟨#[83,84,89]⟩,.string ⟨#[76,68,89]⟩,.string ⟨#[67,80,89]⟩,.string ⟨#[67,80,88]⟩] : List Value)[(row).toNat]'h = .string (nameAt names0 (row)):=name_at names0 (row)
  have hb : ∀ h : (row).toNat < ([.string ⟨#[66,80,76]⟩,.string ⟨#[66,77,73]⟩,.string ⟨#[66,86,67]⟩,.string ⟨#[66,86,83]⟩,.string ⟨#[66,67,67]⟩,.string ⟨#[66,67,83]⟩,.string ⟨#[66,78,69]⟩,.string ⟨#[66,69,81]⟩] : List Value).length,([.string ⟨#[66,80,76]⟩,.string ⟨#[66,77,73]⟩,.string ⟨#[66,86,67]⟩,.string ⟨#[66,86,83]⟩,.string ⟨#[66,67,67]⟩,.string ⟨#[66,67,83]⟩,.string ⟨#[66,78,69]⟩,.string ⟨#[66,69,81]⟩] : List Value)[(row).toNat]'h = .string (nameAt names0c (row)):=name_at names0c (row)
  generalize nameAt names0c row = nm at hb ⊢
  have HB:=hR w;go_enter Tryz.func192,Tryz.ntmps192
  go_wp2
  all_goals clear hn
  all_goals (refine bodyPost_ret (v:=.agg #[.string (nm),.int .i64 (12)]) (by (simp only [results,Tryz.results192];go_simp <;> (rfl))) rfl ?_)
  all_goals exact ⟨rfl,blw⟩
set_option maxHeartbeats 1600000 in
theorem spec_l03Zero_5 (row : Int) (w : World) (g0 : 0 ≤ row) (g1 : row < 8) : Calls Tryz.prog 192 #[.int .i64 row,.int .i64 5] w fun e w' => e = .returned (.agg #[.string (opZero row 5).1,.int .i64 (opZero row 5).2])∧Below w.heap.size w w':=by
  by_cases q0 : row = 4
  · subst q0
    rw [show opZero 4 5 = (nameAt names0 4,4) from rfl]
    have HB:=hR w;go_enter Tryz.func192,Tryz.ntmps192
    go_wp2
    skip
    all_goals (refine bodyPost_ret (v:=.agg #[.string (nameAt names0 4),.int .i64 (4)]) (by (simp only [results,Tryz.results192];go_simp <;> (rfl))) rfl ?_)
    all_goals exact ⟨rfl,blw⟩
  by_cases q1 : row = 5
  · subst q1
    rw [show opZero 5 5 = (nameAt names0 5,4) from rfl]
    have HB:=hR w;go_enter Tryz.func192,Tryz.ntmps192
    go_wp2
    skip
    all_goals (refine bodyPost_ret (v:=.agg #[.string (nameAt names0 5),.int .i64 (4)]) (by (simp only [results,Tryz.results192];go_simp <;> (rfl))) rfl ?_)
    all_goals exact ⟨rfl,blw⟩
  rw [show opZero row 5 = (⟨#[]⟩,0) from by simp [opZero, *]]
  have qb0 : (row == 4) = false:=by simpa using q0
  have qb1 : (row == 5) = false:=by simpa using q1
  have hn : ∀ h : (row).toNat < ([.string ⟨#[]⟩,.string ⟨#[]⟩,.string ⟨#[]⟩,.string ⟨#[]⟩,.string ⟨#[83,84,89]⟩,.string ⟨#[76,68,89]⟩,.string ⟨#[67,80,89]⟩,.string ⟨#[67,80,88]⟩] : List Value).length,([.string ⟨#[]⟩,.string ⟨#[]⟩,.string ⟨#[]⟩,.string ⟨#[]⟩,.string ⟨#[83,84,89]⟩,.string ⟨#[76,68,89]⟩,.string ⟨#[67,80,89]⟩,.string ⟨#[67,80,88]⟩] : List Value)[(row).toNat]'h = .string (nameAt names0 (row)):=name_at names0 (row)
  have HB:=hR w;go_enter Tryz.func192,Tryz.ntmps192
  go_wp2
  all_goals clear hn
  all_goals (refine bodyPost_ret (v:=.agg #[.string (⟨#[]⟩),.int .i64 (0)]) (by (simp only [results,Tryz.results192];go_simp <;> (rfl))) rfl ?_)
  all_goals exact ⟨rfl,blw⟩
set_option maxHeartbeats 1600000 in
theorem spec_l03Zero_6 (row : Int) (w : World) (g0 : 0 ≤ row) (g1 : row < 8) : Calls Tryz.prog 192 #[.int .i64 row,.int .i64 6] w fun e w' => e = .returned (.agg #[.string (opZero row 6).1,.int .i64 (opZero row 6).2])∧Below w.heap.size w w':=by
  rw [show opZero row 6 = (nameAt names0d row,0) from by simp [opZero, *]]
  have hn : ∀ h : (row).toNat < ([.string ⟨#[]⟩,.string ⟨#[]⟩,.string ⟨#[]⟩,.string ⟨#[]⟩,.string ⟨#[83,84,89]⟩,.string ⟨#[76,68,89]⟩,.string ⟨#[67,80,89]⟩,.string ⟨#[67,80,88]⟩] : List Value).length,([.string ⟨#[]⟩,.string ⟨#[]⟩,.string ⟨#[]⟩,.string ⟨#[]⟩,.string ⟨#[83,84,89]⟩,.string ⟨#[76,68,89]⟩,.string ⟨#[67,80,89]⟩,.string ⟨#[67,80,88]⟩] : List Value)[(row).toNat]'h = .string (nameAt names0 (row)):=name_at names0 (row)
  have hb : ∀ h : (row).toNat < ([.string ⟨#[67,76,67]⟩,.string ⟨#[83,69,67]⟩,.string ⟨#[67,76,73]⟩,.string ⟨#[83,69,73]⟩,.string ⟨#[84,89,65]⟩,.string ⟨#[67,76,86]⟩,.string ⟨#[67,76,68]⟩,.string ⟨#[83,69,68]⟩] : List Value).length,([.string ⟨#[67,76,67]⟩,.string ⟨#[83,69,67]⟩,.string ⟨#[67,76,73]⟩,.string ⟨#[83,69,73]⟩,.string ⟨#[84,89,65]⟩,.string ⟨#[67,76,86]⟩,.string ⟨#[67,76,68]⟩,.string ⟨#[83,69,68]⟩] : List Value)[(row).toNat]'h = .string (nameAt names0d (row)):=name_at names0d (row)
  generalize nameAt names0d row = nm at hb ⊢
  have HB:=hR w;go_enter Tryz.func192,Tryz.ntmps192
  go_wp2
  all_goals clear hn
  all_goals (refine bodyPost_ret (v:=.agg #[.string (nm),.int .i64 (0)]) (by (simp only [results,Tryz.results192];go_simp <;> (rfl))) rfl ?_)
  all_goals exact ⟨rfl,blw⟩
set_option maxHeartbeats 1600000 in
theorem spec_l03Zero_7 (row : Int) (w : World) (g0 : 0 ≤ row) (g1 : row < 8) : Calls Tryz.prog 192 #[.int .i64 row,.int .i64 7] w fun e w' => e = .returned (.agg #[.string (opZero row 7).1,.int .i64 (opZero row 7).2])∧Below w.heap.size w w':=by
  by_cases q0 : row = 5
  · subst q0
    rw [show opZero 5 7 = (nameAt names0 5,7) from rfl]
    have HB:=hR w;go_enter Tryz.func192,Tryz.ntmps192
    go_wp2
    skip
    all_goals (refine bodyPost_ret (v:=.agg #[.string (nameAt names0 5),.int .i64 (7)]) (by (simp only [results,Tryz.results192];go_simp <;> (rfl))) rfl ?_)
    all_goals exact ⟨rfl,blw⟩
  rw [show opZero row 7 = (⟨#[]⟩,0) from by simp [opZero, *]]
  have qb0 : (row == 5) = false:=by simpa using q0
  have hn : ∀ h : (row).toNat < ([.string ⟨#[]⟩,.string ⟨#[]⟩,.string ⟨#[]⟩,.string ⟨#[]⟩,.string ⟨#[83,84,89]⟩,.string ⟨#[76,68,89]⟩,.string ⟨#[67,80,89]⟩,.string ⟨#[67,80,88]⟩] : List Value).length,([.string ⟨#[]⟩,.string ⟨#[]⟩,.string ⟨#[]⟩,.string ⟨#[]⟩,.string ⟨#[83,84,89]⟩,.string ⟨#[76,68,89]⟩,.string ⟨#[67,80,89]⟩,.string ⟨#[67,80,88]⟩] : List Value)[(row).toNat]'h = .string (nameAt names0 (row)):=name_at names0 (row)
  have HB:=hR w;go_enter Tryz.func192,Tryz.ntmps192
  go_wp2
  all_goals clear hn
  all_goals (refine bodyPost_ret (v:=.agg #[.string (⟨#[]⟩),.int .i64 (0)]) (by (simp only [results,Tryz.results192];go_simp <;> (rfl))) rfl ?_)
  all_goals exact ⟨rfl,blw⟩
theorem spec_l03Two (row part : Int) (w : World) (g0 : 0 ≤ row) (g1 : row < 8) (h0 : 0 ≤ part) (h1 : part < 8) : Calls Tryz.prog 194 #[.int .i64 row,.int .i64 part] w fun e w' => e = .returned (.agg #[.string (opTwo row part).1,.int .i64 (opTwo row part).2])∧Below w.heap.size w w':=by
  have hp : part = 0 ∨ part = 1 ∨ part = 2 ∨ part = 3 ∨ part = 4 ∨ part = 5 ∨ part = 6 ∨ part = 7:=by omega
  rcases hp with rfl | rfl | rfl | rfl | rfl | rfl | rfl | rfl
  · exact spec_l03Two_0 row w g0 g1
  · exact spec_l03Two_1 row w g0 g1
  · exact spec_l03Two_2 row w g0 g1
  · exact spec_l03Two_3 row w g0 g1
  · exact spec_l03Two_4 row w g0 g1
  · exact spec_l03Two_5 row w g0 g1
  · exact spec_l03Two_6 row w g0 g1
  · exact spec_l03Two_7 row w g0 g1
theorem spec_l03Zero (row part : Int) (w : World) (g0 : 0 ≤ row) (g1 : row < 8) (h0 : 0 ≤ part) (h1 : part < 8) : Calls Tryz.prog 192 #[.int .i64 row,.int .i64 part] w fun e w' => e = .returned (.agg #[.string (opZero row part).1,.int .i64 (opZero row part).2])∧Below w.heap.size w w':=by
  have hp : part = 0 ∨ part = 1 ∨ part = 2 ∨ part = 3 ∨ part = 4 ∨ part = 5 ∨ part = 6 ∨ part = 7:=by omega
  rcases hp with rfl | rfl | rfl | rfl | rfl | rfl | rfl | rfl
  · exact spec_l03Zero_0 row w g0 g1
  · exact spec_l03Zero_1 row w g0 g1
  · exact spec_l03Zero_2 row w g0 g1
  · exact spec_l03Zero_3 row w g0 g1
  · exact spec_l03Zero_4 row w g0 g1
  · exact spec_l03Zero_5 row w g0 g1
  · exact spec_l03Zero_6 row w g0 g1
  · exact spec_l03Zero_7 row w g0 g1
open Go.RowKit Go.Proofs.YtoncmhfmkfeolaaGreatDoorW.PrintWords
def rawS (code : Int) : ByteArray × Int:=if code % 4 = 0 then opZero (code / 32) (code / 4 % 8) else if code % 4 = 1 then opOne (code / 32) (code / 4 % 8) else if code % 4 = 2 then opTwo (code / 32) (code / 4 % 8) else (⟨#[]⟩,0)
def nmS (code : Int) : List UInt8:=(rawS code).1.data.toList
def mdS (code : Int) : Int:=if nmS code == [] then -1 else (rawS code).2
theorem arr_eta (b : ByteArray) : (⟨b.data.toList.toArray⟩ : ByteArray) = b:=by cases b;simp
set_option maxHeartbeats 1000000 in
theorem spec_l03Of (code : Int) (w : World) (h0 : 0 ≤ code) (h1 : code < 256) :
    Calls Tryz.prog 166 #[.int .u8 code] w fun e w' => e = .returned (.agg #[.string (rawS code).1,.int .i64 (rawS code).2])∧Below w.heap.size w w':=by
  obtain ⟨row,hrow⟩ : ∃ row,code / 32 = row:=⟨_,rfl⟩
  obtain ⟨part,hpart⟩ : ∃ part,code / 4 % 8 = part:=⟨_,rfl⟩
  obtain ⟨side,hside⟩ : ∃ side,code % 4 = side:=⟨_,rfl⟩
  have r0 : 0 ≤ row:=by omega
  have r1 : row < 8:=by omega
  have p0 : 0 ≤ part:=by omega
  have p1 : part < 8:=by omega
  have hs : side = 0 ∨ side = 1 ∨ side = 2 ∨ side = 3:=by omega
  obtain ⟨x,m,hraw⟩ : ∃ x m,rawS code = (x,m):=⟨_,_,rfl⟩
  rw [hraw]
  unfold rawS at hraw
  rw [hside,hrow,hpart] at hraw
  rcases hs with rfl | rfl | rfl | rfl
  · rw [if_pos rfl] at hraw
    have hz:=fun W => spec_l03Zero row part W r0 r1 p0 p1
    rw [hraw] at hz
    clear hraw
    have hz:=hz (w.alloc (.cells #[.string ⟨#[]⟩,.int .i64 0] 190))
    have HB:=hR w;go_enter Tryz.func166,Tryz.ntmps166;go_wp2_with fail;refine hz.mono ?_;rintro _ w1 ⟨rfl,hb⟩;(have HB:=Aside0.mk (below_step (w:=w) blw hb);have hz1:=hb.size;obtain ⟨hcl1,hfr1,hlt1,_⟩:=bcell hb;(try simp only [sA,sC,sD] at hz1);(try simp only [sA,sC,sD] at hcl1 hfr1 hlt1);have hk1_0 : w.heap.size < w1.heap.size:=(by omega);have HB1:=hR w1;clear hb);go_wp2_with fail;(refine bodyPost_ret (v:=.agg #[.string x,.int .i64 m]) (by (simp only [results,Tryz.results166];go_simp <;> (rfl))) rfl ?_);exact ⟨rfl,blw⟩
  · rw [if_neg (by decide),if_pos rfl] at hraw
    have hz:=fun W => spec_l03One row part W r0 r1 p0 p1
    rw [hraw] at hz
    clear hraw
    have hz:=hz (w.alloc (.cells #[.string ⟨#[]⟩,.int .i64 0] 190))
    have HB:=hR w;go_enter Tryz.func166,Tryz.ntmps166;go_wp2_with fail;refine hz.mono ?_;rintro _ w1 ⟨rfl,hb⟩;(have HB:=Aside0.mk (below_step (w:=w) blw hb);have hz1:=hb.size;obtain ⟨hcl1,hfr1,hlt1,_⟩:=bcell hb;(try simp only [sA,sC,sD] at hz1);(try simp only [sA,sC,sD] at hcl1 hfr1 hlt1);have hk1_0 : w.heap.size < w1.heap.size:=(by omega);have HB1:=hR w1;clear hb);go_wp2_with fail;(refine bodyPost_ret (v:=.agg #[.string x,.int .i64 m]) (by (simp only [results,Tryz.results166];go_simp <;> (rfl))) rfl ?_);exact ⟨rfl,blw⟩
  · rw [if_neg (by decide),if_neg (by decide),if_pos rfl] at hraw
    have hz:=fun W => spec_l03Two row part W r0 r1 p0 p1
    rw [hraw] at hz
    clear hraw
    have hz:=hz (w.alloc (.cells #[.string ⟨#[]⟩,.int .i64 0] 190))
    have HB:=hR w;go_enter Tryz.func166,Tryz.ntmps166;go_wp2_with fail;refine hz.mono ?_;rintro _ w1 ⟨rfl,hb⟩;(have HB:=Aside0.mk (below_step (w:=w) blw hb);have hz1:=hb.size;obtain ⟨hcl1,hfr1,hlt1,_⟩:=bcell hb;(try simp only [sA,sC,sD] at hz1);(try simp only [sA,sC,sD] at hcl1 hfr1 hlt1);have hk1_0 : w.heap.size < w1.heap.size:=(by omega);have HB1:=hR w1;clear hb);go_wp2_with fail;(refine bodyPost_ret (v:=.agg #[.string x,.int .i64 m]) (by (simp only [results,Tryz.results166];go_simp <;> (rfl))) rfl ?_);exact ⟨rfl,blw⟩
  · rw [if_neg (by decide),if_neg (by decide),if_neg (by decide)] at hraw
    obtain ⟨rfl,rfl⟩:=Prod.mk.inj hraw
    clear hraw
    have HB:=hR w;go_enter Tryz.func166,Tryz.ntmps166
    go_wp2_with fail
    (refine bodyPost_ret (v:=.agg #[.string ⟨#[]⟩,.int .i64 0]) (by (simp only [results,Tryz.results166];go_simp <;> (rfl))) rfl ?_)
    exact ⟨rfl,blw⟩
@[go_sem] theorem run_field_op0 (x : ByteArray) (m : Int) (w : World) : Sem.run Tryz.prog (Instr.field 190 (.agg #[.string x,.int .i64 m]) 0) w = .ok (.string x) w:=by kernel_rfl
@[go_sem] theorem run_field_op1 (x : ByteArray) (m : Int) (w : World) : Sem.run Tryz.prog (Instr.field 190 (.agg #[.string x,.int .i64 m]) 1) w = .ok (.int .i64 m) w:=by kernel_rfl
theorem spec_NameOf (code : Int) (w : World) (h0 : 0 ≤ code) (h1 : code < 256) :
    Calls Tryz.prog 121 #[.int .u8 code] w fun e w' => e = .returned (.string ⟨(nmS code).toArray⟩)∧Below w.heap.size w w':=by
  unfold nmS
  rw [arr_eta]
  have HB:=hR w;go_enter Tryz.func121,Tryz.ntmps121
  go_wp2_with fail
  refine (spec_l03Of code w h0 h1).mono ?_
  rintro _ w1 ⟨rfl,hb⟩
  (have HB:=Aside0.mk (below_step (w:=w) blw hb);have hz1:=hb.size;obtain ⟨hcl1,hfr1,hlt1,_⟩:=bcell hb;(try simp only [sA,sC,sD] at hz1);(try simp only [sA,sC,sD] at hcl1 hfr1 hlt1);have HB1:=hR w1;clear hb)
  go_wp2_with fail
  go_ret
  exact ⟨rfl,blw⟩
theorem spec_ModeOf (code : Int) (w : World) (h0 : 0 ≤ code) (h1 : code < 256) :
    Calls Tryz.prog 125 #[.int .u8 code] w fun e w' => e = .returned (.int .i64 (mdS code))∧Below w.heap.size w w':=by
  have hn:=spec_NameOf code w h0 h1
  have ho:=fun W => spec_l03Of code W h0 h1
  unfold mdS
  generalize nmS code = x at hn ⊢
  by_cases hx : x = []
  · subst hx
    rw [show (([] : List UInt8) == []) = true from rfl,if_pos rfl]
    have HB:=hR w;go_enter Tryz.func125,Tryz.ntmps125
    go_wp2_with fail
    refine hn.mono ?_
    rintro _ w1 ⟨rfl,hb⟩
    (have HB:=Aside0.mk (below_step (w:=w) blw hb);have hz1:=hb.size;obtain ⟨hcl1,hfr1,hlt1,_⟩:=bcell hb;(try simp only [sA,sC,sD] at hz1);(try simp only [sA,sC,sD] at hcl1 hfr1 hlt1);have HB1:=hR w1;clear hb)
    go_wp2_with fail
    go_ret
    exact ⟨rfl,blw⟩
  · have hx1 : (x == []) = false:=beq_eq_false_iff_ne.2 hx
    have hx2 : x.isEmpty = false:=by cases x with | nil => exact absurd rfl hx | cons a t => rfl
    rw [hx1,if_neg (by decide)]
    have HB:=hR w;go_enter Tryz.func125,Tryz.ntmps125
    go_wp2_with fail
    refine hn.mono ?_
    rintro _ w1 ⟨rfl,hb⟩
    (have HB:=Aside0.mk (below_step (w:=w) blw hb);have hz1:=hb.size;obtain ⟨hcl1,hfr1,hlt1,_⟩:=bcell hb;(try simp only [sA,sC,sD] at hz1);(try simp only [sA,sC,sD] at hcl1 hfr1 hlt1);have HB1:=hR w1;clear hb)
    go_wp2_with fail
    refine (ho _).mono ?_
    rintro _ w2 ⟨rfl,hb⟩
    (have HB:=Aside0.mk (below_step (w:=w) blw hb);have HB1:=Aside0.mk (below_step (w:=w1) blw hb);have hz2:=hb.size;obtain ⟨hcl2,hfr2,hlt2,_⟩:=bcell hb;(try simp only [sA,sC,sD] at hz2);(try simp only [sA,sC,sD] at hcl2 hfr2 hlt2);have HB2:=hR w2;clear hb)
    go_wp2_with fail
    go_ret
    exact ⟨rfl,blw⟩
def kindM (x : List UInt8) (m : Int) : Int :=
  if x == [] then 0 else if x == [74,77,80] then 6 else if x == [74,83,82] then 7 else if x == [82,84,83] then 8 else if x == [82,84,73] then 9 else if x == [66,82,75] then 10 else if x == [80,72,65] then 11 else if x == [80,72,80] then 11 else if x == [80,76,65] then 12 else if x == [80,76,80] then 12 else if x == [83,84,65] then 3 else if x == [83,84,88] then 3 else if x == [83,84,89] then 3 else if m == 12 then 5 else if m == 0 then 1 else if m == 1 then 1 else if x == [65,83,76] then 4 else if x == [76,83,82] then 4 else if x == [82,79,76] then 4 else if x == [82,79,82] then 4 else if x == [73,78,67] then 4 else if x == [68,69,67] then 4 else 2
def kindS (code : Int) : Int:=kindM (nmS code) (mdS code)
set_option maxHeartbeats 1000000 in
theorem spec_KindOf (code : Int) (w : World) (h0 : 0 ≤ code) (h1 : code < 256) :
    Calls Tryz.prog 123 #[.int .u8 code] w fun e w' => e = .returned (.int .i64 (kindS code))∧Below w.heap.size w w':=by
  have hn:=spec_NameOf code w h0 h1
  have ho:=fun W => spec_ModeOf code W h0 h1
  unfold kindS
  generalize nmS code = x at hn ⊢
  generalize mdS code = m at ho ⊢
  by_cases hx : x = []
  · subst hx
    rw [show kindM [] m = 0 from rfl]
    have HB:=hR w;go_enter Tryz.func123,Tryz.ntmps123;go_wp2_with fail;refine hn.mono ?_;rintro _ w1 ⟨rfl,hb⟩;(have HB:=Aside0.mk (below_step (w:=w) blw hb);have hz1:=hb.size;obtain ⟨hcl1,hfr1,hlt1,_⟩:=bcell hb;(try simp only [sA,sC,sD] at hz1);(try simp only [sA,sC,sD] at hcl1 hfr1 hlt1);have HB1:=hR w1;clear hb);go_wp2_with fail;refine (ho _).mono ?_;rintro _ w2 ⟨rfl,hb⟩;(have HB:=Aside0.mk (below_step (w:=w) blw hb);have HB1:=Aside0.mk (below_step (w:=w1) blw hb);have hz2:=hb.size;obtain ⟨hcl2,hfr2,hlt2,_⟩:=bcell hb;(try simp only [sA,sC,sD] at hz2);(try simp only [sA,sC,sD] at hcl2 hfr2 hlt2);have HB2:=hR w2;clear hb);go_wp2_with fail;go_ret;exact ⟨rfl,blw⟩
  have hx1 : (x == []) = false:=beq_eq_false_iff_ne.2 hx
  have hx2 : x.isEmpty = false:=by cases x with | nil => exact absurd rfl hx | cons a t => rfl
  by_cases q0 : x = [74,77,80]
  · subst q0
    rw [show kindM [74,77,80] m = 6 from rfl]
    clear hx hx1 hx2
    have HB:=hR w;go_enter Tryz.func123,Tryz.ntmps123;go_wp2_with fail;refine hn.mono ?_;rintro _ w1 ⟨rfl,hb⟩;(have HB:=Aside0.mk (below_step (w:=w) blw hb);have hz1:=hb.size;obtain ⟨hcl1,hfr1,hlt1,_⟩:=bcell hb;(try simp only [sA,sC,sD] at hz1);(try simp only [sA,sC,sD] at hcl1 hfr1 hlt1);have HB1:=hR w1;clear hb);go_wp2_with fail;refine (ho _).mono ?_;rintro _ w2 ⟨rfl,hb⟩;(have HB:=Aside0.mk (below_step (w:=w) blw hb);have HB1:=Aside0.mk (below_step (w:=w1) blw hb);have hz2:=hb.size;obtain ⟨hcl2,hfr2,hlt2,_⟩:=bcell hb;(try simp only [sA,sC,sD] at hz2);(try simp only [sA,sC,sD] at hcl2 hfr2 hlt2);have HB2:=hR w2;clear hb);go_wp2_with fail;go_ret;exact ⟨rfl,blw⟩
  have nJMP : (x == [74,77,80]) = false:=beq_eq_false_iff_ne.2 q0
  by_cases q1 : x = [74,83,82]
  · subst q1
    rw [show kindM [74,83,82] m = 7 from rfl]
    clear hx hx1 hx2
    have HB:=hR w;go_enter Tryz.func123,Tryz.ntmps123;go_wp2_with fail;refine hn.mono ?_;rintro _ w1 ⟨rfl,hb⟩;(have HB:=Aside0.mk (below_step (w:=w) blw hb);have hz1:=hb.size;obtain ⟨hcl1,hfr1,hlt1,_⟩:=bcell hb;(try simp only [sA,sC,sD] at hz1);(try simp only [sA,sC,sD] at hcl1 hfr1 hlt1);have HB1:=hR w1;clear hb);go_wp2_with fail;refine (ho _).mono ?_;rintro _ w2 ⟨rfl,hb⟩;(have HB:=Aside0.mk (below_step (w:=w) blw hb);have HB1:=Aside0.mk (below_step (w:=w1) blw hb);have hz2:=hb.size;obtain ⟨hcl2,hfr2,hlt2,_⟩:=bcell hb;(try simp only [sA,sC,sD] at hz2);(try simp only [sA,sC,sD] at hcl2 hfr2 hlt2);have HB2:=hR w2;clear hb);go_wp2_with fail;go_ret;exact ⟨rfl,blw⟩
  have nJSR : (x == [74,83,82]) = false:=beq_eq_false_iff_ne.2 q1
  by_cases q2 : x = [82,84,83]
  · subst q2
    rw [show kindM [82,84,83] m = 8 from rfl]
    clear hx hx1 hx2
    have HB:=hR w;go_enter Tryz.func123,Tryz.ntmps123;go_wp2_with fail;refine hn.mono ?_;rintro _ w1 ⟨rfl,hb⟩;(have HB:=Aside0.mk (below_step (w:=w) blw hb);have hz1:=hb.size;obtain ⟨hcl1,hfr1,hlt1,_⟩:=bcell hb;(try simp only [sA,sC,sD] at hz1);(try simp only [sA,sC,sD] at hcl1 hfr1 hlt1);have HB1:=hR w1;clear hb);go_wp2_with fail;refine (ho _).mono ?_;rintro _ w2 ⟨rfl,hb⟩;(have HB:=Aside0.mk (below_step (w:=w) blw hb);have HB1:=Aside0.mk (below_step (w:=w1) blw hb);have hz2:=hb.size;obtain ⟨hcl2,hfr2,hlt2,_⟩:=bcell hb;(try simp only [sA,sC,sD] at hz2);(try simp only [sA,sC,sD] at hcl2 hfr2 hlt2);have HB2:=hR w2;clear hb);go_wp2_with fail;go_ret;exact ⟨rfl,blw⟩
  have nRTS : (x == [82,84,83]) = false:=beq_eq_false_iff_ne.2 q2
  by_cases q3 : x = [82,84,73]
  · subst q3
    rw [show kindM [82,84,73] m = 9 from rfl]
    clear hx hx1 hx2
    have HB:=hR w;go_enter Tryz.func123,Tryz.ntmps123;go_wp2_with fail;refine hn.mono ?_;rintro _ w1 ⟨rfl,hb⟩;(have HB:=Aside0.mk (below_step (w:=w) blw hb);have hz1:=hb.size;obtain ⟨hcl1,hfr1,hlt1,_⟩:=bcell hb;(try simp only [sA,sC,sD] at hz1);(try simp only [sA,sC,sD] at hcl1 hfr1 hlt1);have HB1:=hR w1;clear hb);go_wp2_with fail;refine (ho _).mono ?_;rintro _ w2 ⟨rfl,hb⟩;(have HB:=Aside0.mk (below_step (w:=w) blw hb);have HB1:=Aside0.mk (below_step (w:=w1) blw hb);have hz2:=hb.size;obtain ⟨hcl2,hfr2,hlt2,_⟩:=bcell hb;(try simp only [sA,sC,sD] at hz2);(try simp only [sA,sC,sD] at hcl2 hfr2 hlt2);have HB2:=hR w2;clear hb);go_wp2_with fail;go_ret;exact ⟨rfl,blw⟩
  have nRTI : (x == [82,84,73]) = false:=beq_eq_false_iff_ne.2 q3
  by_cases q4 : x = [66,82,75]
  · subst q4
    rw [show kindM [66,82,75] m = 10 from rfl]
    clear hx hx1 hx2
    have HB:=hR w;go_enter Tryz.func123,Tryz.ntmps123;go_wp2_with fail;refine hn.mono ?_;rintro _ w1 ⟨rfl,hb⟩;(have HB:=Aside0.mk (below_step (w:=w) blw hb);have hz1:=hb.size;obtain ⟨hcl1,hfr1,hlt1,_⟩:=bcell hb;(try simp only [sA,sC,sD] at hz1);(try simp only [sA,sC,sD] at hcl1 hfr1 hlt1);have HB1:=hR w1;clear hb);go_wp2_with fail;refine (ho _).mono ?_;rintro _ w2 ⟨rfl,hb⟩;(have HB:=Aside0.mk (below_step (w:=w) blw hb);have HB1:=Aside0.mk (below_step (w:=w1) blw hb);have hz2:=hb.size;obtain ⟨hcl2,hfr2,hlt2,_⟩:=bcell hb;(try simp only [sA,sC,sD] at hz2);(try simp only [sA,sC,sD] at hcl2 hfr2 hlt2);have HB2:=hR w2;clear hb);go_wp2_with fail;go_ret;exact ⟨rfl,blw⟩
  have nBRK : (x == [66,82,75]) = false:=beq_eq_false_iff_ne.2 q4
  by_cases q5 : x = [80,72,65]
  · subst q5
    rw [show kindM [80,72,65] m = 11 from rfl]
    clear hx hx1 hx2
    have HB:=hR w;go_enter Tryz.func123,Tryz.ntmps123;go_wp2_with fail;refine hn.mono ?_;rintro _ w1 ⟨rfl,hb⟩;(have HB:=Aside0.mk (below_step (w:=w) blw hb);have hz1:=hb.size;obtain ⟨hcl1,hfr1,hlt1,_⟩:=bcell hb;(try simp only [sA,sC,sD] at hz1);(try simp only [sA,sC,sD] at hcl1 hfr1 hlt1);have HB1:=hR w1;clear hb);go_wp2_with fail;refine (ho _).mono ?_;rintro _ w2 ⟨rfl,hb⟩;(have HB:=Aside0.mk (below_step (w:=w) blw hb);have HB1:=Aside0.mk (below_step (w:=w1) blw hb);have hz2:=hb.size;obtain ⟨hcl2,hfr2,hlt2,_⟩:=bcell hb;(try simp only [sA,sC,sD] at hz2);(try simp only [sA,sC,sD] at hcl2 hfr2 hlt2);have HB2:=hR w2;clear hb);go_wp2_with fail;go_ret;exact ⟨rfl,blw⟩
  have nPHA : (x == [80,72,65]) = false:=beq_eq_false_iff_ne.2 q5
  by_cases q6 : x = [80,72,80]
  · subst q6
    rw [show kindM [80,72,80] m = 11 from rfl]
    clear hx hx1 hx2
    have HB:=hR w;go_enter Tryz.func123,Tryz.ntmps123;go_wp2_with fail;refine hn.mono ?_;rintro _ w1 ⟨rfl,hb⟩;(have HB:=Aside0.mk (below_step (w:=w) blw hb);have hz1:=hb.size;obtain ⟨hcl1,hfr1,hlt1,_⟩:=bcell hb;(try simp only [sA,sC,sD] at hz1);(try simp only [sA,sC,sD] at hcl1 hfr1 hlt1);have HB1:=hR w1;clear hb);go_wp2_with fail;refine (ho _).mono ?_;rintro _ w2 ⟨rfl,hb⟩;(have HB:=Aside0.mk (below_step (w:=w) blw hb);have HB1:=Aside0.mk (below_step (w:=w1) blw hb);have hz2:=hb.size;obtain ⟨hcl2,hfr2,hlt2,_⟩:=bcell hb;(try simp only [sA,sC,sD] at hz2);(try simp only [sA,sC,sD] at hcl2 hfr2 hlt2);have HB2:=hR w2;clear hb);go_wp2_with fail;go_ret;exact ⟨rfl,blw⟩
  have nPHP : (x == [80,72,80]) = false:=beq_eq_false_iff_ne.2 q6
  by_cases q7 : x = [80,76,65]
  · subst q7
    rw [show kindM [80,76,65] m = 12 from rfl]
    clear hx hx1 hx2
    have HB:=hR w;go_enter Tryz.func123,Tryz.ntmps123;go_wp2_with fail;refine hn.mono ?_;rintro _ w1 ⟨rfl,hb⟩;(have HB:=Aside0.mk (below_step (w:=w) blw hb);have hz1:=hb.size;obtain ⟨hcl1,hfr1,hlt1,_⟩:=bcell hb;(try simp only [sA,sC,sD] at hz1);(try simp only [sA,sC,sD] at hcl1 hfr1 hlt1);have HB1:=hR w1;clear hb);go_wp2_with fail;refine (ho _).mono ?_;rintro _ w2 ⟨rfl,hb⟩;(have HB:=Aside0.mk (below_step (w:=w) blw hb);have HB1:=Aside0.mk (below_step (w:=w1) blw hb);have hz2:=hb.size;obtain ⟨hcl2,hfr2,hlt2,_⟩:=bcell hb;(try simp only [sA,sC,sD] at hz2);(try simp only [sA,sC,sD] at hcl2 hfr2 hlt2);have HB2:=hR w2;clear hb);go_wp2_with fail;go_ret;exact ⟨rfl,blw⟩
  have nPLA : (x == [80,76,65]) = false:=beq_eq_false_iff_ne.2 q7
  by_cases q8 : x = [80,76,80]
  · subst q8
    rw [show kindM [80,76,80] m = 12 from rfl]
    clear hx hx1 hx2
    have HB:=hR w;go_enter Tryz.func123,Tryz.ntmps123;go_wp2_with fail;refine hn.mono ?_;rintro _ w1 ⟨rfl,hb⟩;(have HB:=Aside0.mk (below_step (w:=w) blw hb);have hz1:=hb.size;obtain ⟨hcl1,hfr1,hlt1,_⟩:=bcell hb;(try simp only [sA,sC,sD] at hz1);(try simp only [sA,sC,sD] at hcl1 hfr1 hlt1);have HB1:=hR w1;clear hb);go_wp2_with fail;refine (ho _).mono ?_;rintro _ w2 ⟨rfl,hb⟩;(have HB:=Aside0.mk (below_step (w:=w) blw hb);have HB1:=Aside0.mk (below_step (w:=w1) blw hb);have hz2:=hb.size;obtain ⟨hcl2,hfr2,hlt2,_⟩:=bcell hb;(try simp only [sA,sC,sD] at hz2);(try simp only [sA,sC,sD] at hcl2 hfr2 hlt2);have HB2:=hR w2;clear hb);go_wp2_with fail;go_ret;exact ⟨rfl,blw⟩
  have nPLP : (x == [80,76,80]) = false:=beq_eq_false_iff_ne.2 q8
  by_cases q9 : x = [83,84,65]
  · subst q9
    rw [show kindM [83,84,65] m = 3 from rfl]
    clear hx hx1 hx2
    have HB:=hR w;go_enter Tryz.func123,Tryz.ntmps123;go_wp2_with fail;refine hn.mono ?_;rintro _ w1 ⟨rfl,hb⟩;(have HB:=Aside0.mk (below_step (w:=w) blw hb);have hz1:=hb.size;obtain ⟨hcl1,hfr1,hlt1,_⟩:=bcell hb;(try simp only [sA,sC,sD] at hz1);(try simp only [sA,sC,sD] at hcl1 hfr1 hlt1);have HB1:=hR w1;clear hb);go_wp2_with fail;refine (ho _).mono ?_;rintro _ w2 ⟨rfl,hb⟩;(have HB:=Aside0.mk (below_step (w:=w) blw hb);have HB1:=Aside0.mk (below_step (w:=w1) blw hb);have hz2:=hb.size;obtain ⟨hcl2,hfr2,hlt2,_⟩:=bcell hb;(try simp only [sA,sC,sD] at hz2);(try simp only [sA,sC,sD] at hcl2 hfr2 hlt2);have HB2:=hR w2;clear hb);go_wp2_with fail;go_ret;exact ⟨rfl,blw⟩
  have nSTA : (x == [83,84,65]) = false:=beq_eq_false_iff_ne.2 q9
  by_cases q10 : x = [83,84,88]
  · subst q10
    rw [show kindM [83,84,88] m = 3 from rfl]
    clear hx hx1 hx2
    have HB:=hR w;go_enter Tryz.func123,Tryz.ntmps123;go_wp2_with fail;refine hn.mono ?_;rintro _ w1 ⟨rfl,hb⟩;(have HB:=Aside0.mk (below_step (w:=w) blw hb);have hz1:=hb.size;obtain ⟨hcl1,hfr1,hlt1,_⟩:=bcell hb;(try simp only [sA,sC,sD] at hz1);(try simp only [sA,sC,sD] at hcl1 hfr1 hlt1);have HB1:=hR w1;clear hb);go_wp2_with fail;refine (ho _).mono ?_;rintro _ w2 ⟨rfl,hb⟩;(have HB:=Aside0.mk (below_step (w:=w) blw hb);have HB1:=Aside0.mk (below_step (w:=w1) blw hb);have hz2:=hb.size;obtain ⟨hcl2,hfr2,hlt2,_⟩:=bcell hb;(try simp only [sA,sC,sD] at hz2);(try simp only [sA,sC,sD] at hcl2 hfr2 hlt2);have HB2:=hR w2;clear hb);go_wp2_with fail;go_ret;exact ⟨rfl,blw⟩
  have nSTX : (x == [83,84,88]) = false:=beq_eq_false_iff_ne.2 q10
  by_cases q11 : x = [83,84,89]
  · subst q11
    rw [show kindM [83,84,89] m = 3 from rfl]
    clear hx hx1 hx2
    have HB:=hR w;go_enter Tryz.func123,Tryz.ntmps123;go_wp2_with fail;refine hn.mono ?_;rintro _ w1 ⟨rfl,hb⟩;(have HB:=Aside0.mk (below_step (w:=w) blw hb);have hz1:=hb.size;obtain ⟨hcl1,hfr1,hlt1,_⟩:=bcell hb;(try simp only [sA,sC,sD] at hz1);(try simp only [sA,sC,sD] at hcl1 hfr1 hlt1);have HB1:=hR w1;clear hb);go_wp2_with fail;refine (ho _).mono ?_;rintro _ w2 ⟨rfl,hb⟩;(have HB:=Aside0.mk (below_step (w:=w) blw hb);have HB1:=Aside0.mk (below_step (w:=w1) blw hb);have hz2:=hb.size;obtain ⟨hcl2,hfr2,hlt2,_⟩:=bcell hb;(try simp only [sA,sC,sD] at hz2);(try simp only [sA,sC,sD] at hcl2 hfr2 hlt2);have HB2:=hR w2;clear hb);go_wp2_with fail;go_ret;exact ⟨rfl,blw⟩
  have nSTY : (x == [83,84,89]) = false:=beq_eq_false_iff_ne.2 q11
  have e : kindM x m = if m == 12 then (5 : Int) else if m == 0 then 1 else if m == 1 then 1 else if x == [65,83,76] then 4 else if x == [76,83,82] then 4 else if x == [82,79,76] then 4 else if x == [82,79,82] then 4 else if x == [73,78,67] then 4 else if x == [68,69,67] then 4 else 2:=by
    unfold kindM
    simp only [hx1,nJMP,nJSR,nRTS,nRTI,nBRK,nPHA,nPHP,nPLA,nPLP,nSTA,nSTX,nSTY]
    simp
  rw [e]
  clear e hx q0 q1 q2 q3 q4 q5 q6 q7 q8 q9 q10 q11
  by_cases m12 : m = 12
  · subst m12
    rw [if_pos (by rfl)]
    have HB:=hR w;go_enter Tryz.func123,Tryz.ntmps123;go_wp2_with fail;refine hn.mono ?_;rintro _ w1 ⟨rfl,hb⟩;(have HB:=Aside0.mk (below_step (w:=w) blw hb);have hz1:=hb.size;obtain ⟨hcl1,hfr1,hlt1,_⟩:=bcell hb;(try simp only [sA,sC,sD] at hz1);(try simp only [sA,sC,sD] at hcl1 hfr1 hlt1);have HB1:=hR w1;clear hb);go_wp2_with fail;refine (ho _).mono ?_;rintro _ w2 ⟨rfl,hb⟩;(have HB:=Aside0.mk (below_step (w:=w) blw hb);have HB1:=Aside0.mk (below_step (w:=w1) blw hb);have hz2:=hb.size;obtain ⟨hcl2,hfr2,hlt2,_⟩:=bcell hb;(try simp only [sA,sC,sD] at hz2);(try simp only [sA,sC,sD] at hcl2 hfr2 hlt2);have HB2:=hR w2;clear hb);go_wp2_with fail;go_ret;exact ⟨rfl,blw⟩
  have b12 : (m == 12) = false:=beq_eq_false_iff_ne.2 m12
  rw [b12,if_neg (by decide)]
  by_cases m0 : m = 0
  · subst m0
    rw [if_pos (by rfl)]
    have HB:=hR w;go_enter Tryz.func123,Tryz.ntmps123;go_wp2_with fail;refine hn.mono ?_;rintro _ w1 ⟨rfl,hb⟩;(have HB:=Aside0.mk (below_step (w:=w) blw hb);have hz1:=hb.size;obtain ⟨hcl1,hfr1,hlt1,_⟩:=bcell hb;(try simp only [sA,sC,sD] at hz1);(try simp only [sA,sC,sD] at hcl1 hfr1 hlt1);have HB1:=hR w1;clear hb);go_wp2_with fail;refine (ho _).mono ?_;rintro _ w2 ⟨rfl,hb⟩;(have HB:=Aside0.mk (below_step (w:=w) blw hb);have HB1:=Aside0.mk (below_step (w:=w1) blw hb);have hz2:=hb.size;obtain ⟨hcl2,hfr2,hlt2,_⟩:=bcell hb;(try simp only [sA,sC,sD] at hz2);(try simp only [sA,sC,sD] at hcl2 hfr2 hlt2);have HB2:=hR w2;clear hb);go_wp2_with fail;go_ret;exact ⟨rfl,blw⟩
  have b0 : (m == 0) = false:=beq_eq_false_iff_ne.2 m0
  rw [b0,if_neg (by decide)]
  by_cases m1 : m = 1
  · subst m1
    rw [if_pos (by rfl)]
    have HB:=hR w;go_enter Tryz.func123,Tryz.ntmps123;go_wp2_with fail;refine hn.mono ?_;rintro _ w1 ⟨rfl,hb⟩;(have HB:=Aside0.mk (below_step (w:=w) blw hb);have hz1:=hb.size;obtain ⟨hcl1,hfr1,hlt1,_⟩:=bcell hb;(try simp only [sA,sC,sD] at hz1);(try simp only [sA,sC,sD] at hcl1 hfr1 hlt1);have HB1:=hR w1;clear hb);go_wp2_with fail;refine (ho _).mono ?_;rintro _ w2 ⟨rfl,hb⟩;(have HB:=Aside0.mk (below_step (w:=w) blw hb);have HB1:=Aside0.mk (below_step (w:=w1) blw hb);have hz2:=hb.size;obtain ⟨hcl2,hfr2,hlt2,_⟩:=bcell hb;(try simp only [sA,sC,sD] at hz2);(try simp only [sA,sC,sD] at hcl2 hfr2 hlt2);have HB2:=hR w2;clear hb);go_wp2_with fail;go_ret;exact ⟨rfl,blw⟩
  have b1 : (m == 1) = false:=beq_eq_false_iff_ne.2 m1
  rw [b1,if_neg (by decide)]
  by_cases s0 : x = [65,83,76]
  · subst s0
    rw [if_pos (by rfl)]
    clear hx1 hx2 nJMP nJSR nRTS nRTI nBRK nPHA nPHP nPLA nPLP nSTA nSTX nSTY
    have HB:=hR w;go_enter Tryz.func123,Tryz.ntmps123;go_wp2_with fail;refine hn.mono ?_;rintro _ w1 ⟨rfl,hb⟩;(have HB:=Aside0.mk (below_step (w:=w) blw hb);have hz1:=hb.size;obtain ⟨hcl1,hfr1,hlt1,_⟩:=bcell hb;(try simp only [sA,sC,sD] at hz1);(try simp only [sA,sC,sD] at hcl1 hfr1 hlt1);have HB1:=hR w1;clear hb);go_wp2_with fail;refine (ho _).mono ?_;rintro _ w2 ⟨rfl,hb⟩;(have HB:=Aside0.mk (below_step (w:=w) blw hb);have HB1:=Aside0.mk (below_step (w:=w1) blw hb);have hz2:=hb.size;obtain ⟨hcl2,hfr2,hlt2,_⟩:=bcell hb;(try simp only [sA,sC,sD] at hz2);(try simp only [sA,sC,sD] at hcl2 hfr2 hlt2);have HB2:=hR w2;clear hb);go_wp2_with fail;go_ret;exact ⟨rfl,blw⟩
  have z0 : (x == [65,83,76]) = false:=beq_eq_false_iff_ne.2 s0
  rw [z0,if_neg (by decide)]
  by_cases s1 : x = [76,83,82]
  · subst s1
    rw [if_pos (by rfl)]
    clear hx1 hx2 nJMP nJSR nRTS nRTI nBRK nPHA nPHP nPLA nPLP nSTA nSTX nSTY z0
    have HB:=hR w;go_enter Tryz.func123,Tryz.ntmps123;go_wp2_with fail;refine hn.mono ?_;rintro _ w1 ⟨rfl,hb⟩;(have HB:=Aside0.mk (below_step (w:=w) blw hb);have hz1:=hb.size;obtain ⟨hcl1,hfr1,hlt1,_⟩:=bcell hb;(try simp only [sA,sC,sD] at hz1);(try simp only [sA,sC,sD] at hcl1 hfr1 hlt1);have HB1:=hR w1;clear hb);go_wp2_with fail;refine (ho _).mono ?_;rintro _ w2 ⟨rfl,hb⟩;(have HB:=Aside0.mk (below_step (w:=w) blw hb);have HB1:=Aside0.mk (below_step (w:=w1) blw hb);have hz2:=hb.size;obtain ⟨hcl2,hfr2,hlt2,_⟩:=bcell hb;(try simp only [sA,sC,sD] at hz2);(try simp only [sA,sC,sD] at hcl2 hfr2 hlt2);have HB2:=hR w2;clear hb);go_wp2_with fail;go_ret;exact ⟨rfl,blw⟩
  have z1 : (x == [76,83,82]) = false:=beq_eq_false_iff_ne.2 s1
  rw [z1,if_neg (by decide)]
  by_cases s2 : x = [82,79,76]
  · subst s2
    rw [if_pos (by rfl)]
    clear hx1 hx2 nJMP nJSR nRTS nRTI nBRK nPHA nPHP nPLA nPLP nSTA nSTX nSTY z0 z1
    have HB:=hR w;go_enter Tryz.func123,Tryz.ntmps123;go_wp2_with fail;refine hn.mono ?_;rintro _ w1 ⟨rfl,hb⟩;(have HB:=Aside0.mk (below_step (w:=w) blw hb);have hz1:=hb.size;obtain ⟨hcl1,hfr1,hlt1,_⟩:=bcell hb;(try simp only [sA,sC,sD] at hz1);(try simp only [sA,sC,sD] at hcl1 hfr1 hlt1);have HB1:=hR w1;clear hb);go_wp2_with fail;refine (ho _).mono ?_;rintro _ w2 ⟨rfl,hb⟩;(have HB:=Aside0.mk (below_step (w:=w) blw hb);have HB1:=Aside0.mk (below_step (w:=w1) blw hb);have hz2:=hb.size;obtain ⟨hcl2,hfr2,hlt2,_⟩:=bcell hb;(try simp only [sA,sC,sD] at hz2);(try simp only [sA,sC,sD] at hcl2 hfr2 hlt2);have HB2:=hR w2;clear hb);go_wp2_with fail;go_ret;exact ⟨rfl,blw⟩
  have z2 : (x == [82,79,76]) = false:=beq_eq_false_iff_ne.2 s2
  rw [z2,if_neg (by decide)]
  by_cases s3 : x = [82,79,82]
  · subst s3
    rw [if_pos (by rfl)]
    clear hx1 hx2 nJMP nJSR nRTS nRTI nBRK nPHA nPHP nPLA nPLP nSTA nSTX nSTY z0 z1 z2
    have HB:=hR w;go_enter Tryz.func123,Tryz.ntmps123;go_wp2_with fail;refine hn.mono ?_;rintro _ w1 ⟨rfl,hb⟩;(have HB:=Aside0.mk (below_step (w:=w) blw hb);have hz1:=hb.size;obtain ⟨hcl1,hfr1,hlt1,_⟩:=bcell hb;(try simp only [sA,sC,sD] at hz1);(try simp only [sA,sC,sD] at hcl1 hfr1 hlt1);have HB1:=hR w1;clear hb);go_wp2_with fail;refine (ho _).mono ?_;rintro _ w2 ⟨rfl,hb⟩;(have HB:=Aside0.mk (below_step (w:=w) blw hb);have HB1:=Aside0.mk (below_step (w:=w1) blw hb);have hz2:=hb.size;obtain ⟨hcl2,hfr2,hlt2,_⟩:=bcell hb;(try simp only [sA,sC,sD] at hz2);(try simp only [sA,sC,sD] at hcl2 hfr2 hlt2);have HB2:=hR w2;clear hb);go_wp2_with fail;go_ret;exact ⟨rfl,blw⟩
  have z3 : (x == [82,79,82]) = false:=beq_eq_false_iff_ne.2 s3
  rw [z3,if_neg (by decide)]
  by_cases s4 : x = [73,78,67]
  · subst s4
    rw [if_pos (by rfl)]
    clear hx1 hx2 nJMP nJSR nRTS nRTI nBRK nPHA nPHP nPLA nPLP nSTA nSTX nSTY z0 z1 z2 z3
    have HB:=hR w;go_enter Tryz.func123,Tryz.ntmps123;go_wp2_with fail;refine hn.mono ?_;rintro _ w1 ⟨rfl,hb⟩;(have HB:=Aside0.mk (below_step (w:=w) blw hb);have hz1:=hb.size;obtain ⟨hcl1,hfr1,hlt1,_⟩:=bcell hb;(try simp only [sA,sC,sD] at hz1);(try simp only [sA,sC,sD] at hcl1 hfr1 hlt1);have HB1:=hR w1;clear hb);go_wp2_with fail;refine (ho _).mono ?_;rintro _ w2 ⟨rfl,hb⟩;(have HB:=Aside0.mk (below_step (w:=w) blw hb);have HB1:=Aside0.mk (below_step (w:=w1) blw hb);have hz2:=hb.size;obtain ⟨hcl2,hfr2,hlt2,_⟩:=bcell hb;(try simp only [sA,sC,sD] at hz2);(try simp only [sA,sC,sD] at hcl2 hfr2 hlt2);have HB2:=hR w2;clear hb);go_wp2_with fail;go_ret;exact ⟨rfl,blw⟩
  have z4 : (x == [73,78,67]) = false:=beq_eq_false_iff_ne.2 s4
  rw [z4,if_neg (by decide)]
  by_cases s5 : x = [68,69,67]
  · subst s5
    rw [if_pos (by rfl)]
    clear hx1 hx2 nJMP nJSR nRTS nRTI nBRK nPHA nPHP nPLA nPLP nSTA nSTX nSTY z0 z1 z2 z3 z4
    have HB:=hR w;go_enter Tryz.func123,Tryz.ntmps123;go_wp2_with fail;refine hn.mono ?_;rintro _ w1 ⟨rfl,hb⟩;(have HB:=Aside0.mk (below_step (w:=w) blw hb);have hz1:=hb.size;obtain ⟨hcl1,hfr1,hlt1,_⟩:=bcell hb;(try simp only [sA,sC,sD] at hz1);(try simp only [sA,sC,sD] at hcl1 hfr1 hlt1);have HB1:=hR w1;clear hb);go_wp2_with fail;refine (ho _).mono ?_;rintro _ w2 ⟨rfl,hb⟩;(have HB:=Aside0.mk (below_step (w:=w) blw hb);have HB1:=Aside0.mk (below_step (w:=w1) blw hb);have hz2:=hb.size;obtain ⟨hcl2,hfr2,hlt2,_⟩:=bcell hb;(try simp only [sA,sC,sD] at hz2);(try simp only [sA,sC,sD] at hcl2 hfr2 hlt2);have HB2:=hR w2;clear hb);go_wp2_with fail;go_ret;exact ⟨rfl,blw⟩
  have z5 : (x == [68,69,67]) = false:=beq_eq_false_iff_ne.2 s5
  rw [z5,if_neg (by decide)]
  clear s0 s1 s2 s3 s4 s5
  have HB:=hR w;go_enter Tryz.func123,Tryz.ntmps123;go_wp2_with fail;refine hn.mono ?_;rintro _ w1 ⟨rfl,hb⟩;(have HB:=Aside0.mk (below_step (w:=w) blw hb);have hz1:=hb.size;obtain ⟨hcl1,hfr1,hlt1,_⟩:=bcell hb;(try simp only [sA,sC,sD] at hz1);(try simp only [sA,sC,sD] at hcl1 hfr1 hlt1);have HB1:=hR w1;clear hb);go_wp2_with fail;refine (ho _).mono ?_;rintro _ w2 ⟨rfl,hb⟩;(have HB:=Aside0.mk (below_step (w:=w) blw hb);have HB1:=Aside0.mk (below_step (w:=w1) blw hb);have hz2:=hb.size;obtain ⟨hcl2,hfr2,hlt2,_⟩:=bcell hb;(try simp only [sA,sC,sD] at hz2);(try simp only [sA,sC,sD] at hcl2 hfr2 hlt2);have HB2:=hR w2;clear hb);go_wp2_with fail;go_ret;exact ⟨rfl,blw⟩
end Go.Proofs.YtoncmhfmkfeolaaGreatDoor
