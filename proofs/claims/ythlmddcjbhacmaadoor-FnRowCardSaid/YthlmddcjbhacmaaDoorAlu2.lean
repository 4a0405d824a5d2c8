/- The difference of the processor. -/
import Derived.Test.YthlmddcjbhacmaaDoorAlu
set_option linter.unusedVariables false
set_option linter.unusedSimpArgs false
namespace Go.Proofs.YthlmddcjbhacmaaDoor
open Go.RowKit Go.Proofs.YthlmddcjbhacmaaDoorW.PrintWords
attribute [local go_sem] u8_and1 u8_and15 u8_and240 i64_and15
theorem adc_lo (a b : Int) (f : F6) : 0 ≤ (adc a b f).1 := by unfold adc; split <;> simp only [] <;> omega
theorem adc_hi (a b : Int) (f : F6) : (adc a b f).1 < 256 := by unfold adc; split <;> simp only [] <;> omega
theorem sbc_lo (a b : Int) (f : F6) : 0 ≤ (sbc a b f).1 := by
  unfold sbc; split
  · exact adc_lo _ _ _
  · simp only []; omega
theorem sbc_hi (a b : Int) (f : F6) : (sbc a b f).1 < 256 := by
  unfold sbc; split
  · exact adc_hi _ _ _
  · simp only []; omega
end Go.Proofs.YthlmddcjbhacmaaDoor
