/- A processor of the exact laws: its copies. -/
import Derived.Test.YtgdfehacijafhaaDoorCore
import Derived.Test.YtgdfehacijafhaaDoorRamX
set_option linter.unusedVariables false
set_option linter.unusedSimpArgs false
namespace Go.Proofs.YtgdfehacijafhaaDoor
open Go.RowKit Go.Proofs.YtgdfehacijafhaaDoorW.PrintWords
def Cpu.ok (x : Cpu) : Prop := 0 ≤ x.A ∧ x.A < 256 ∧ 0 ≤ x.X ∧ x.X < 256 ∧ 0 ≤ x.Y ∧ x.Y < 256 ∧ 0 ≤ x.S ∧ x.S < 256 ∧ 0 ≤ x.PC ∧ x.PC < 65536
theorem laws_toFlags (f : F6) (w : World) : Calls Tryd.prog 39 #[.agg #[.bool f.N, .bool f.V, .bool f.D, .bool f.I, .bool f.Z, .bool f.C]] w fun e w' => e = .returned (.agg #[.bool f.N, .bool f.V, .bool f.D, .bool f.I, .bool f.Z, .bool f.C]) ∧ Below w.heap.size w w' := by
  have HB := Aside0.mk (Below.refl w.heap.size w); go_enter Tryd.func39, Tryd.ntmps39
  go_wp2
  (refine bodyPost_ret (v := .agg #[.bool f.N, .bool f.V, .bool f.D, .bool f.I, .bool f.Z, .bool f.C]) (by (simp only [results, Tryd.results39]; go_simp <;> (rfl))) rfl ?_)
  exact ⟨rfl, by (repeat (first | (with_reducible exact Below.refl _ _) | (with_reducible assumption) | ((with_reducible apply Aside0.out); with_reducible assumption) | (with_reducible apply below_alloc) | (with_reducible apply below_drew1) | (with_reducible apply pw_below_drewN) | ((with_reducible refine below_set ?_ ?_); rotate_left; (first | omega | (simp; done) | (simp; omega)))))⟩
set_option maxHeartbeats 400000 in
theorem laws_toCpu (x : Cpu) (w : World) : Calls Tryd.prog 15 #[.agg #[.int .u8 x.A, .int .u8 x.X, .int .u8 x.Y, .int .u8 x.S, .int .u16 x.PC, .bool x.F.N, .bool x.F.V, .bool x.F.D, .bool x.F.I, .bool x.F.Z, .bool x.F.C]] w fun e w' => e = .returned (.agg #[.int .u8 x.A, .int .u8 x.X, .int .u8 x.Y, .int .u8 x.S, .int .u16 x.PC, .bool x.F.N, .bool x.F.V, .bool x.F.D, .bool x.F.I, .bool x.F.Z, .bool x.F.C]) ∧ Below w.heap.size w w' := by
  have HB := Aside0.mk (Below.refl w.heap.size w); go_enter Tryd.func15, Tryd.ntmps15
  go_wp2_with fail
  refine (laws_toFlags x.F _).mono ?_
  rintro _ w1 ⟨rfl, hb⟩
  (have HB := Aside0.mk (below_step (w := w) (by (repeat (first | (with_reducible exact Below.refl _ _) | (with_reducible assumption) | ((with_reducible apply Aside0.out); with_reducible assumption) | (with_reducible apply below_alloc) | (with_reducible apply below_drew1) | (with_reducible apply pw_below_drewN) | ((with_reducible refine below_set ?_ ?_); rotate_left; (first | omega | (simp; done) | (simp; omega)))))) hb); have hz1 := hb.size; obtain ⟨hcl1, hfr1, hlt1, _⟩ := bcell hb; (try simp only [World.size_alloc, World.size_setCell, World.size_drew] at hz1); (try simp only [World.size_alloc, World.size_setCell, World.size_drew] at hcl1 hfr1 hlt1); have hk1_0 : w.heap.size < w1.heap.size := (by omega); have hk1_1 : w.heap.size + 1 < w1.heap.size := (by omega); have hk1_2 : w.heap.size + 1 + 1 < w1.heap.size := (by omega); have HB1 := Aside0.mk (Below.refl w1.heap.size w1); clear hb)
  go_wp2_with fail
  (refine bodyPost_ret (v := .agg #[.int .u8 x.A, .int .u8 x.X, .int .u8 x.Y, .int .u8 x.S, .int .u16 x.PC, .bool x.F.N, .bool x.F.V, .bool x.F.D, .bool x.F.I, .bool x.F.Z, .bool x.F.C]) (by (simp only [results, Tryd.results15]; go_simp <;> (rfl))) rfl ?_)
  exact ⟨rfl, by (repeat (first | (with_reducible exact Below.refl _ _) | (with_reducible assumption) | ((with_reducible apply Aside0.out); with_reducible assumption) | (with_reducible apply below_alloc) | (with_reducible apply below_drew1) | (with_reducible apply pw_below_drewN) | ((with_reducible refine below_set ?_ ?_); rotate_left; (first | omega | (simp; done) | (simp; omega)))))⟩
end Go.Proofs.YtgdfehacijafhaaDoor
