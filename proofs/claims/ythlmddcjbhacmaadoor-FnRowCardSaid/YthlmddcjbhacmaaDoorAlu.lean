/- The sums, differences and flags of the processor: what impl's functions return. -/
import Derived.Test.YthlmddcjbhacmaaDoorKit
import Derived.Test.YthlmddcjbhacmaaDoorCore
set_option linter.unusedVariables false
set_option linter.unusedSimpArgs false
namespace Go.Proofs.YthlmddcjbhacmaaDoor
open Go.RowKit Go.Proofs.YthlmddcjbhacmaaDoorW.PrintWords
attribute [local go_sem] u8_and1 u8_and15 u8_and240 i64_and15
theorem has7_eq (b : Int) (h0 : 0 ≤ b) (h1 : b < 256) : (b / 128 % 2 == 1) = decide (128 ≤ b) := by
  rw [Bool.eq_iff_iff]; simp; omega
theorem over_same {a b c : Int} (h : decide (128 ≤ a) = decide (128 ≤ b)) : over a b c = !(decide (128 ≤ c) == decide (128 ≤ b)) := by simp [over, h]
theorem over_else {a b c : Int} (h : ¬ decide (128 ≤ a) = decide (128 ≤ b)) : over a b c = false := by simp only [over, beq_eq_false_iff_ne.2 h, Bool.false_and]
end Go.Proofs.YthlmddcjbhacmaaDoor
