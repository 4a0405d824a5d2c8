/- A processor of the exact laws: its copies. -/
import Derived.Test.YtghmeghbekkanaaCore
import Derived.Test.YtghmeghbekkanaaRamX
set_option linter.unusedVariables false
set_option linter.unusedSimpArgs false
namespace Go.Proofs.Ytghmeghbekkanaa
open Go.RowKit Go.Proofs.YtghmeghbekkanaaW.PrintWords
def Cpu.ok (x : Cpu) : Prop := 0 ≤ x.A ∧ x.A < 256 ∧ 0 ≤ x.X ∧ x.X < 256 ∧ 0 ≤ x.Y ∧ x.Y < 256 ∧ 0 ≤ x.S ∧ x.S < 256 ∧ 0 ≤ x.PC ∧ x.PC < 65536
theorem laws_toFlags (f : F6) (w : World) : Calls Try.prog 32 #[.agg #[.bool f.N, .bool f.V, .bool f.D, .bool f.I, .bool f.Z, .bool f.C]] w fun e w' => e = .returned (.agg #[.bool f.N, .bool f.V, .bool f.D, .bool f.I, .bool f.Z, .bool f.C]) ∧ Below w.heap.size w w' := by
  have HB := hR w; go_enter Try.func32, Try.ntmps32
  go_wp2
  (refine bodyPost_ret (v := .agg #[.bool f.N, .bool f.V, .bool f.D, .bool f.I, .bool f.Z, .bool f.C]) (by (simp only [results, Try.results32]; go_simp <;> (rfl))) rfl ?_)
  exact ⟨rfl, blw⟩
set_option maxHeartbeats 400000 in
theorem laws_toCpu (x : Cpu) (w : World) : Calls Try.prog 7 #[.agg #[.int .u8 x.A, .int .u8 x.X, .int .u8 x.Y, .int .u8 x.S, .int .u16 x.PC, .bool x.F.N, .bool x.F.V, .bool x.F.D, .bool x.F.I, .bool x.F.Z, .bool x.F.C]] w fun e w' => e = .returned (.agg #[.int .u8 x.A, .int .u8 x.X, .int .u8 x.Y, .int .u8 x.S, .int .u16 x.PC, .bool x.F.N, .bool x.F.V, .bool x.F.D, .bool x.F.I, .bool x.F.Z, .bool x.F.C]) ∧ Below w.heap.size w w' := by
  have HB := hR w; go_enter Try.func7, Try.ntmps7
  go_wp2_with fail
  refine (laws_toFlags x.F _).mono ?_
  rintro _ w1 ⟨rfl, hb⟩
  (have HB := Aside0.mk (below_step (w := w) blw hb); have hz1 := hb.size; obtain ⟨hcl1, hfr1, hlt1, _⟩ := bcell hb; (try simp only [sA, sC, sD] at hz1); (try simp only [sA, sC, sD] at hcl1 hfr1 hlt1); have hk1_0 : w.heap.size < w1.heap.size := (by omega); have hk1_1 : w.heap.size + 1 < w1.heap.size := (by omega); have hk1_2 : w.heap.size + 1 + 1 < w1.heap.size := (by omega); have HB1 := hR w1; clear hb)
  go_wp2_with fail
  (refine bodyPost_ret (v := .agg #[.int .u8 x.A, .int .u8 x.X, .int .u8 x.Y, .int .u8 x.S, .int .u16 x.PC, .bool x.F.N, .bool x.F.V, .bool x.F.D, .bool x.F.I, .bool x.F.Z, .bool x.F.C]) (by (simp only [results, Try.results7]; go_simp <;> (rfl))) rfl ?_)
  exact ⟨rfl, blw⟩
end Go.Proofs.Ytghmeghbekkanaa
