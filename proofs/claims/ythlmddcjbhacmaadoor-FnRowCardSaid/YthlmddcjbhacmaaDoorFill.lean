/- Memories cloned and filled by the program and the reference. -/
import Derived.Test.YthlmddcjbhacmaaDoorByt
import Derived.Test.YthlmddcjbhacmaaDoorRam
import Derived.Lib.LazyBuf
import Derived.Deep.DeepCutAuto
import Derived.Deep.CutBlock
set_option linter.unusedVariables false
set_option linter.unusedSimpArgs false
namespace Go.Proofs.YthlmddcjbhacmaaDoor
open Go.RowKit Go.Proofs.YthlmddcjbhacmaaDoorW.PrintWords
theorem bs_nil {w : World} {l : List Int} (h : Bs w none l) : l = [] := by
  have := h.c.2.2
  cases l with
  | nil => rfl
  | cons x xs => obtain ⟨ad, e, _⟩ := this (by simp); cases e
theorem bs_one {w : World} {g : Nat} {b : Int} (h : w.cell? ⟨g, 0, none⟩ = some (.int .u8 b)) (h0 : 0 ≤ b) (h1 : b < 256) : Bs w (some ⟨g, 0, none⟩) [b] := by
  refine ⟨Kd.C_of_reads (d := (0 : Int)) (h1 := fun _ => rfl) ⟨rfl, by simp, fun _ => ⟨_, rfl, fun j hj => ?_⟩⟩, fun i => ?_⟩
  · have : j = 0 := by simp at hj; omega
    subst this
    show w.cell? ((⟨g, 0, none⟩ : Addr).add 0) = some (.int .u8 b)
    rw [Addr.add_zero']
    exact h
  · rcases Nat.eq_zero_or_pos i.toNat with e | e
    · simp [rd, e]; omega
    · have : ∃ n, i.toNat = n + 1 := ⟨i.toNat - 1, by omega⟩
      obtain ⟨n, hn⟩ := this
      simp [rd, hn]
end Go.Proofs.YthlmddcjbhacmaaDoor
