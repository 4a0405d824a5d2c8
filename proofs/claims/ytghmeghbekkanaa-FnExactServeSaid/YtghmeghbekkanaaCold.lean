/- The processor at first. -/
import Derived.Test.YtghmeghbekkanaaRam
set_option linter.unusedVariables false
set_option linter.unusedSimpArgs false
namespace Go.Proofs.Ytghmeghbekkanaa
open Go.RowKit Go.Proofs.YtghmeghbekkanaaW.PrintWords
theorem u16_join (lo hi : Int) (h0 : 0 ≤ lo) (h1 : lo < 256) (h2 : 0 ≤ hi) (h3 : hi < 256) : bits .or .u16 (hi * 256) lo = lo + 256 * hi := by
  rw [bits_join .u16 16 (by decide) (fun n h0 h1 => by rw [IntKind.wrap_u16]; omega) 8 (hi * 256) lo (by omega) (by omega) (by omega) (by omega) (by omega) (by omega)]
  omega
theorem u16_wrap_in (n : Int) (h : 0 ≤ n ∧ n < 65536) : IntKind.u16.wrap n = n := by rw [IntKind.wrap_u16]; omega
theorem spec_l04Word (lo hi : Int) (w : World) (h0 : 0 ≤ lo) (h1 : lo < 256) (h2 : 0 ≤ hi) (h3 : hi < 256) :
    Calls Try.prog 62 #[.int .u8 lo, .int .u8 hi] w fun e w' => e = .returned (.int .i64 (word2 lo hi)) ∧ w = w' := by
  have HB := hR w; go_enter Try.func62, Try.ntmps62
  go_wp2
  go_ret
  exact ⟨rfl, rfl⟩
theorem impl_wordOf (lo hi : Int) (w : World) (h0 : 0 ≤ lo) (h1 : lo < 256) (h2 : 0 ≤ hi) (h3 : hi < 256) :
    Calls Try.prog 88 #[.int .u8 lo, .int .u8 hi] w fun e w' => e = .returned (.int .u16 (word2 lo hi)) ∧ w = w' := by
  have hj := u16_join lo hi h0 h1 h2 h3
  have HB := hR w; go_enter Try.func88, Try.ntmps88
  go_wp2
  go_ret
  exact ⟨ret_of (by simp [word2, hj]), rfl⟩
theorem peek_b {w : World} {A : Option Addr} {l : List Int} (h : Bs w A l) (a : Int) : 0 ≤ peek l a ∧ peek l a < 256 := by
  unfold peek; split
  · exact h.b _
  · omega
theorem word2_b {a b : Int} (h : 0 ≤ a ∧ a < 256) (k : 0 ≤ b ∧ b < 256) : 0 ≤ word2 a b ∧ word2 a b < 65536 := by unfold word2; omega
set_option maxHeartbeats 400000 in
theorem laws_eqFlags (f : F6) (w : World) : Calls Try.prog 37 #[.agg #[.bool f.N, .bool f.V, .bool f.D, .bool f.I, .bool f.Z, .bool f.C], .agg #[.bool f.N, .bool f.V, .bool f.D, .bool f.I, .bool f.Z, .bool f.C]] w fun e w' => e = .returned (.bool true) ∧ Below w.heap.size w w' := by
  have HB := hR w; go_enter Try.func37, Try.ntmps37
  go_wp2
  go_ret
  exact ⟨rfl, blw⟩
set_option maxHeartbeats 400000 in
theorem laws_eqCpu (c : Cpu) (w : World) : Calls Try.prog 10 #[.agg #[.int .u8 c.A, .int .u8 c.X, .int .u8 c.Y, .int .u8 c.S, .int .u16 c.PC, .bool c.F.N, .bool c.F.V, .bool c.F.D, .bool c.F.I, .bool c.F.Z, .bool c.F.C], .agg #[.int .u8 c.A, .int .u8 c.X, .int .u8 c.Y, .int .u8 c.S, .int .u16 c.PC, .bool c.F.N, .bool c.F.V, .bool c.F.D, .bool c.F.I, .bool c.F.Z, .bool c.F.C]] w fun e w' => e = .returned (.bool true) ∧ Below w.heap.size w w' := by
  have HB := hR w; go_enter Try.func10, Try.ntmps10
  go_wp2_with fail
  refine (laws_eqFlags c.F _).mono ?_
  rintro _ w1 ⟨rfl, hb⟩
  (have HB := Aside0.mk (below_step (w := w) blw hb); have hz1 := hb.size; obtain ⟨hcl1, hfr1, hlt1, _⟩ := bcell hb; (try simp only [sA, sC, sD] at hz1); (try simp only [sA, sC, sD] at hcl1 hfr1 hlt1); have hk1_0 : w.heap.size < w1.heap.size := (by omega); have hk1_1 : w.heap.size + 1 < w1.heap.size := (by omega); have HB1 := hR w1; clear hb)
  go_wp2
  go_ret
  exact ⟨rfl, blw⟩
end Go.Proofs.Ytghmeghbekkanaa
