/- The processor at first. -/
import Derived.Test.YtgdfehacijafhaaDoorRam
set_option linter.unusedVariables false
set_option linter.unusedSimpArgs false
namespace Go.Proofs.YtgdfehacijafhaaDoor
open Go.RowKit Go.Proofs.YtgdfehacijafhaaDoorW.PrintWords
theorem u16_join (lo hi : Int) (h0 : 0 ≤ lo) (h1 : lo < 256) (h2 : 0 ≤ hi) (h3 : hi < 256) : bits .or .u16 (hi * 256) lo = lo + 256 * hi := by
  rw [bits_join .u16 16 (by decide) (fun n h0 h1 => by rw [IntKind.wrap_u16]; omega) 8 (hi * 256) lo (by omega) (by omega) (by omega) (by omega) (by omega) (by omega)]
  omega
theorem u16_wrap_in (n : Int) (h : 0 ≤ n ∧ n < 65536) : IntKind.u16.wrap n = n := by rw [IntKind.wrap_u16]; omega
theorem spec_l04Word (lo hi : Int) (w : World) (h0 : 0 ≤ lo) (h1 : lo < 256) (h2 : 0 ≤ hi) (h3 : hi < 256) :
    Calls Tryd.prog 35 #[.int .u8 lo, .int .u8 hi] w fun e w' => e = .returned (.int .i64 (word2 lo hi)) ∧ w = w' := by
  have HB := Aside0.mk (Below.refl w.heap.size w); go_enter Tryd.func35, Tryd.ntmps35
  go_wp2
  go_ret
  exact ⟨rfl, rfl⟩
theorem impl_wordOf (lo hi : Int) (w : World) (h0 : 0 ≤ lo) (h1 : lo < 256) (h2 : 0 ≤ hi) (h3 : hi < 256) :
    Calls Tryd.prog 41 #[.int .u8 lo, .int .u8 hi] w fun e w' => e = .returned (.int .u16 (word2 lo hi)) ∧ w = w' := by
  have hj := u16_join lo hi h0 h1 h2 h3
  have HB := Aside0.mk (Below.refl w.heap.size w); go_enter Tryd.func41, Tryd.ntmps41
  go_wp2
  go_ret
  exact ⟨ret_of (by simp [word2, hj]), rfl⟩
theorem peek_b {w : World} {A : Option Addr} {l : List Int} (h : Bs w A l) (a : Int) : 0 ≤ peek l a ∧ peek l a < 256 := by
  unfold peek; split
  · exact h.b _
  · omega
theorem word2_b {a b : Int} (h : 0 ≤ a ∧ a < 256) (k : 0 ≤ b ∧ b < 256) : 0 ≤ word2 a b ∧ word2 a b < 65536 := by unfold word2; omega
end Go.Proofs.YtgdfehacijafhaaDoor
