/- The operations by their bytes: names and modes, as the reference's tables have them. -/
import Derived.Test.YthlmddcjbhacmaaDoorKit
set_option linter.unusedVariables false
set_option linter.unusedSimpArgs false
namespace Go.Proofs.YthlmddcjbhacmaaDoor
open Go.RowKit Go.Proofs.YthlmddcjbhacmaaDoorW.PrintWords
def nameAt (L : List ByteArray) (r : Int) : ByteArray := L.getD r.toNat ⟨#[]⟩
def modeAt (L : List Int) (r : Int) : Int := L.getD r.toNat 0
theorem name_at (L : List ByteArray) (r : Int) : ∀ h : r.toNat < (L.map Value.string).length, (L.map Value.string)[r.toNat]'h = .string (nameAt L r) := fun h => by
  have : r.toNat < L.length := by simpa using h
  simp [nameAt, List.getD_eq_getElem?_getD, this]
theorem mode_at (L : List Int) (r : Int) : ∀ h : r.toNat < (L.map (Value.int .i64)).length, (L.map (Value.int .i64))[r.toNat]'h = .int .i64 (modeAt L r) := fun h => by
  have : r.toNat < L.length := by simpa using h
  simp [modeAt, List.getD_eq_getElem?_getD, this]
def names1 : List ByteArray := [⟨#[79, 82, 65]⟩, ⟨#[65, 78, 68]⟩, ⟨#[69, 79, 82]⟩, ⟨#[65, 68, 67]⟩, ⟨#[83, 84, 65]⟩, ⟨#[76, 68, 65]⟩, ⟨#[67, 77, 80]⟩, ⟨#[83, 66, 67]⟩]
def modes1 : List Int := [10, 3, 2, 6, 11, 4, 8, 7]
def opOne (row part : Int) : ByteArray × Int := if row = 4 ∧ part = 2 then (⟨#[]⟩, 0) else (nameAt names1 row, modeAt modes1 part)
set_option maxHeartbeats 1600000 in
theorem spec_l03One (row part : Int) (w : World) (g0 : 0 ≤ row) (g1 : row < 8) (h0 : 0 ≤ part) (h1 : part < 8) : Calls Tryd.prog 78 #[.int .i64 row, .int .i64 part] w fun e w' => e = .returned (.agg #[.string (opOne row part).1, .int .i64 (opOne row part).2]) ∧ Below w.heap.size w w' := by
  by_cases hq : row = 4 ∧ part = 2
  · obtain ⟨rfl, rfl⟩ := hq
    have HB := hR w; go_enter Tryd.func78, Tryd.ntmps78
    go_wp2
    (refine bodyPost_ret (v := .agg #[.string ⟨#[]⟩, .int .i64 0]) (by (simp only [results, Tryd.results78]; go_simp <;> (rfl))) rfl ?_)
    exact ⟨rfl, blw⟩
  · have e : opOne row part = (nameAt names1 row, modeAt modes1 part) := if_neg hq
    rw [e]
    have hn : ∀ h : row.toNat < ([.string ⟨#[79, 82, 65]⟩, .string ⟨#[65, 78, 68]⟩, .string ⟨#[69, 79, 82]⟩, .string ⟨#[65, 68, 67]⟩, .string ⟨#[83, 84, 65]⟩, .string ⟨#[76, 68, 65]⟩, .string ⟨#[67, 77, 80]⟩, .string ⟨#[83, 66, 67]⟩] : List Value).length, ([.string ⟨#[79, 82, 65]⟩, .string ⟨#[65, 78, 68]⟩, .string ⟨#[69, 79, 82]⟩, .string ⟨#[65, 68, 67]⟩, .string ⟨#[83, 84, 65]⟩, .string ⟨#[76, 68, 65]⟩, .string ⟨#[67, 77, 80]⟩, .string ⟨#[83, 66, 67]⟩] : List Value)[row.toNat]'h = .string (nameAt names1 row) := name_at names1 row
    have hm : ∀ h : part.toNat < ([.int .i64 10, .int .i64 3, .int .i64 2, .int .i64 6, .int .i64 11, .int .i64 4, .int .i64 8, .int .i64 7] : List Value).length, ([.int .i64 10, .int .i64 3, .int .i64 2, .int .i64 6, .int .i64 11, .int .i64 4, .int .i64 8, .int .i64 7] : List Value)[part.toNat]'h = .int .i64 (modeAt modes1 part) := mode_at modes1 part
    generalize modeAt modes1 part = md at hm ⊢
    by_cases hr : row = 4
    · subst hr
      have hp : ¬ part = 2 := fun h => hq ⟨rfl, h⟩
      clear hn e hq
      have HB := hR w; go_enter Tryd.func78, Tryd.ntmps78
      go_wp2_with fail
      go_region
      go_wp2_with fail
      (refine bodyPost_ret (v := .agg #[.string ⟨#[83, 84, 65]⟩, .int .i64 md]) (by (simp only [results, Tryd.results78]; go_simp <;> (rfl))) rfl ?_)
      exact ⟨rfl, blw⟩
    · generalize nameAt names1 row = nm at hn ⊢
      clear e hq
      have HB := hR w; go_enter Tryd.func78, Tryd.ntmps78
      go_wp2_with fail
      go_region
      go_wp2_with fail
      (refine bodyPost_ret (v := .agg #[.string nm, .int .i64 md]) (by (simp only [results, Tryd.results78]; go_simp <;> (rfl))) rfl ?_)
      exact ⟨rfl, blw⟩
end Go.Proofs.YthlmddcjbhacmaaDoor
