/- The sums, differences and flags of the processor: what impl's functions return. -/
import Derived.Test.YtgdfehacijafhaaDoorKit
import Derived.Test.YtgdfehacijafhaaDoorCore
set_option linter.unusedVariables false
set_option linter.unusedSimpArgs false
namespace Go.Proofs.YtgdfehacijafhaaDoor
open Go.RowKit Go.Proofs.YtgdfehacijafhaaDoorW.PrintWords
attribute [local go_sem] u8_and1 u8_and15 u8_and240 i64_and15
theorem has7_eq (b : Int) (h0 : 0 ≤ b) (h1 : b < 256) : (b / 128 % 2 == 1) = decide (128 ≤ b) := by
  rw [Bool.eq_iff_iff]; simp; omega
theorem impl_one (b : Bool) (w : World) :
    Calls Tryd.prog 50 #[.bool b] w fun e w' => e = .returned (.int .i64 (b2i b)) ∧ w = w' := by
  cases b
  all_goals
    have HB := Aside0.mk (Below.refl w.heap.size w); go_enter Tryd.func50, Tryd.ntmps50
    go_wp2
    go_ret
    exact ⟨rfl, rfl⟩
theorem over_same {a b c : Int} (h : decide (128 ≤ a) = decide (128 ≤ b)) : over a b c = !(decide (128 ≤ c) == decide (128 ≤ b)) := by simp [over, h]
theorem over_else {a b c : Int} (h : ¬ decide (128 ≤ a) = decide (128 ≤ b)) : over a b c = false := by simp only [over, beq_eq_false_iff_ne.2 h, Bool.false_and]
end Go.Proofs.YtgdfehacijafhaaDoor
