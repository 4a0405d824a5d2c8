/- The processor at first. -/
import Derived.Test.YtbkdalbmbegpdaaRam
set_option linter.unusedVariables false
set_option linter.unusedSimpArgs false
namespace Go.Proofs.Ytbkdalbmbegpdaa
open Go.RowKit Go.Proofs.YtbkdalbmbegpdaaW.PrintWords
theorem u16_join (lo hi : Int) (h0 : 0 ≤ lo) (h1 : lo < 256) (h2 : 0 ≤ hi) (h3 : hi < 256) : bits .or .u16 (hi * 256) lo = lo + 256 * hi := by
  rw [bits_join .u16 16 (by decide) (fun n h0 h1 => by rw [IntKind.wrap_u16]; omega) 8 (hi * 256) lo (by omega) (by omega) (by omega) (by omega) (by omega) (by omega)]
  omega
theorem u16_wrap_in (n : Int) (h : 0 ≤ n ∧ n < 65536) : IntKind.u16.wrap n = n := by rw [IntKind.wrap_u16]; omega
theorem spec_l04Word (lo hi : Int) (w : World) (h0 : 0 ≤ lo) (h1 : lo < 256) (h2 : 0 ≤ hi) (h3 : hi < 256) :
    Calls Try.prog 104 #[.int .u8 lo, .int .u8 hi] w fun e w' => e = .returned (.int .i64 (word2 lo hi)) ∧ w = w' := by
  have HB := Aside0.mk (Below.refl w.heap.size w); go_enter Try.func104, Try.ntmps104
  go_wp2
  go_ret
  exact ⟨rfl, rfl⟩
theorem impl_wordOf (lo hi : Int) (w : World) (h0 : 0 ≤ lo) (h1 : lo < 256) (h2 : 0 ≤ hi) (h3 : hi < 256) :
    Calls Try.prog 124 #[.int .u8 lo, .int .u8 hi] w fun e w' => e = .returned (.int .u16 (word2 lo hi)) ∧ w = w' := by
  have hj := u16_join lo hi h0 h1 h2 h3
  have HB := Aside0.mk (Below.refl w.heap.size w); go_enter Try.func124, Try.ntmps124
  go_wp2
  go_ret
  exact ⟨ret_of (by simp [word2, hj]), rfl⟩
theorem peek_b {w : World} {A : Option Addr} {l : List Int} (h : Bs w A l) (a : Int) : 0 ≤ peek l a ∧ peek l a < 256 := by
  unfold peek; split
  · exact h.b _
  · omega
theorem word2_b {a b : Int} (h : 0 ≤ a ∧ a < 256) (k : 0 ≤ b ∧ b < 256) : 0 ≤ word2 a b ∧ word2 a b < 65536 := by unfold word2; omega
set_option maxHeartbeats 400000 in
theorem laws_eqFlags (f : F6) (w : World) : Calls Try.prog 77 #[.agg #[.bool f.N, .bool f.V, .bool f.D, .bool f.I, .bool f.Z, .bool f.C], .agg #[.bool f.N, .bool f.V, .bool f.D, .bool f.I, .bool f.Z, .bool f.C]] w fun e w' => e = .returned (.bool true) ∧ Below w.heap.size w w' := by
  have HB := Aside0.mk (Below.refl w.heap.size w); go_enter Try.func77, Try.ntmps77
  go_wp2
  go_ret
  exact ⟨rfl, by (repeat (first | (with_reducible exact Below.refl _ _) | (with_reducible assumption) | ((with_reducible apply Aside0.out); with_reducible assumption) | (with_reducible apply below_alloc) | (with_reducible apply below_drew1) | (with_reducible apply pw_below_drewN) | ((with_reducible refine below_set ?_ ?_); rotate_left; (first | omega | (simp; done) | (simp; omega)))))⟩
set_option maxHeartbeats 400000 in
theorem laws_eqCpu (c : Cpu) (w : World) : Calls Try.prog 42 #[.agg #[.int .u8 c.A, .int .u8 c.X, .int .u8 c.Y, .int .u8 c.S, .int .u16 c.PC, .bool c.F.N, .bool c.F.V, .bool c.F.D, .bool c.F.I, .bool c.F.Z, .bool c.F.C], .agg #[.int .u8 c.A, .int .u8 c.X, .int .u8 c.Y, .int .u8 c.S, .int .u16 c.PC, .bool c.F.N, .bool c.F.V, .bool c.F.D, .bool c.F.I, .bool c.F.Z, .bool c.F.C]] w fun e w' => e = .returned (.bool true) ∧ Below w.heap.size w w' := by
  have HB := Aside0.mk (Below.refl w.heap.size w); go_enter Try.func42, Try.ntmps42
  go_wp2_with fail
  refine (laws_eqFlags c.F _).mono ?_
  rintro _ w1 ⟨rfl, hb⟩
  (have HB := Aside0.mk (below_step (w := w) (by (repeat (first | (with_reducible exact Below.refl _ _) | (with_reducible assumption) | ((with_reducible apply Aside0.out); with_reducible assumption) | (with_reducible apply below_alloc) | (with_reducible apply below_drew1) | (with_reducible apply pw_below_drewN) | ((with_reducible refine below_set ?_ ?_); rotate_left; (first | omega | (simp; done) | (simp; omega)))))) hb); have hz1 := hb.size; obtain ⟨hcl1, hfr1, hlt1, _⟩ := bcell hb; (try simp only [World.size_alloc, World.size_setCell, World.size_drew] at hz1); (try simp only [World.size_alloc, World.size_setCell, World.size_drew] at hcl1 hfr1 hlt1); have hk1_0 : w.heap.size < w1.heap.size := (by omega); have hk1_1 : w.heap.size + 1 < w1.heap.size := (by omega); have HB1 := Aside0.mk (Below.refl w1.heap.size w1); clear hb)
  go_wp2
  go_ret
  exact ⟨rfl, by (repeat (first | (with_reducible exact Below.refl _ _) | (with_reducible assumption) | ((with_reducible apply Aside0.out); with_reducible assumption) | (with_reducible apply below_alloc) | (with_reducible apply below_drew1) | (with_reducible apply pw_below_drewN) | ((with_reducible refine below_set ?_ ?_); rotate_left; (first | omega | (simp; done) | (simp; omega)))))⟩
end Go.Proofs.Ytbkdalbmbegpdaa
