/- The difference of the processor. -/
import Derived.Test.YtohnclkhamccfaaAlu
namespace Go.Proofs.Ytohnclkhamccfaa
open Go.RowKit Go.Proofs.YtohnclkhamccfaaW.PrintWords
attribute [local go_sem] u8_and1 u8_and15 u8_and240 i64_and15
theorem adc_lo (a b : Int) (f : F6) : 0 ≤ (adc a b f).1 := by unfold adc; split <;> simp only [] <;> omega
theorem adc_hi (a b : Int) (f : F6) : (adc a b f).1 < 256 := by unfold adc; split <;> simp only [] <;> omega
theorem sbc_lo (a b : Int) (f : F6) : 0 ≤ (sbc a b f).1 := by
  unfold sbc; split
  · exact adc_lo _ _ _
  · simp only []; omega
theorem sbc_hi (a b : Int) (f : F6) : (sbc a b f).1 < 256 := by
  unfold sbc; split
  · exact adc_hi _ _ _
  · simp only []; omega
set_option maxHeartbeats 1000000 in
theorem impl_Sbc (a b : Int) (f : F6) (w : World) (h0 : 0 ≤ a) (h1 : a < 256) (h2 : 0 ≤ b) (h3 : b < 256) :
    Calls Try.prog 12 #[.int .u8 a, .int .u8 b, .agg #[.bool f.N, .bool f.V, .bool f.D, .bool f.I, .bool f.Z, .bool f.C]] w fun e w' => e = .returned (.tuple #[.int .u8 (sbc a b f).1, .agg #[.bool (sbc a b f).2.N, .bool (sbc a b f).2.V, .bool (sbc a b f).2.D, .bool (sbc a b f).2.I, .bool (sbc a b f).2.Z, .bool (sbc a b f).2.C]]) ∧ Below w.heap.size w w' := by
  obtain ⟨n, v, d, i, z, c⟩ := f
  have hb0 := b2i_lo c
  have hb1 := b2i_hi c
  have hx := u8_not b h2 h3
  dsimp only
  cases d
  case false =>
    have HB := Aside0.mk (Below.refl w.heap.size w); go_enter Try.func12, Try.ntmps12
    go_wp2_with (first | (go_at_call 34; ((with_reducible refine (impl_one _ _).mono ?_); rintro _ _ ⟨rfl, rfl⟩)) | (go_at_call 11; ((with_reducible refine (impl_Adc _ _ ⟨_, _, _, _, _, _⟩ _ (by omega) (by omega) (by omega) (by omega)).mono ?_); rintro _ w1 ⟨rfl, hb⟩; have HB := Aside0.mk (below_step (w := w) (by (repeat (first | (with_reducible exact Below.refl _ _) | ((with_reducible apply Aside0.out); with_reducible assumption) | (with_reducible apply below_alloc) | (with_reducible apply below_drew1) | (with_reducible apply pw_below_drewN) | ((with_reducible refine below_set ?_ ?_); rotate_left; (first | omega | (simp; done) | (simp; omega)))))) hb); have hz := hb.size; obtain ⟨hcl, hfr, hlt, _⟩ := bcell hb; simp only [World.size_alloc, World.size_setCell, World.size_drew] at hz hcl hfr hlt; clear hb)))
    all_goals go_region
    all_goals go_wp2
    all_goals (refine bodyPost_ret (v := .tuple #[.int .u8 (sbc a b ⟨n, v, false, i, z, c⟩).1, .agg #[.bool (sbc a b ⟨n, v, false, i, z, c⟩).2.N, .bool (sbc a b ⟨n, v, false, i, z, c⟩).2.V, .bool (sbc a b ⟨n, v, false, i, z, c⟩).2.D, .bool (sbc a b ⟨n, v, false, i, z, c⟩).2.I, .bool (sbc a b ⟨n, v, false, i, z, c⟩).2.Z, .bool (sbc a b ⟨n, v, false, i, z, c⟩).2.C]]) (by (simp only [results, Try.results12]; go_simp <;> ((simp [sbc, adc, nz]; done)))) rfl ?_)
    all_goals exact ⟨rfl, by (repeat (first | (with_reducible exact Below.refl _ _) | ((with_reducible apply Aside0.out); with_reducible assumption) | (with_reducible apply below_alloc) | (with_reducible apply below_drew1) | (with_reducible apply pw_below_drewN) | ((with_reducible refine below_set ?_ ?_); rotate_left; (first | omega | (simp; done) | (simp; omega)))))⟩
  case true =>
    have HB := Aside0.mk (Below.refl w.heap.size w); go_enter Try.func12, Try.ntmps12
    go_wp2_with (first | (go_at_call 34; ((with_reducible refine (impl_one _ _).mono ?_); rintro _ _ ⟨rfl, rfl⟩)) | (go_at_call 11; ((with_reducible refine (impl_Adc _ _ ⟨_, _, _, _, _, _⟩ _ (by omega) (by omega) (by omega) (by omega)).mono ?_); rintro _ w1 ⟨rfl, hb⟩; have HB := Aside0.mk (below_step (w := w) (by (repeat (first | (with_reducible exact Below.refl _ _) | ((with_reducible apply Aside0.out); with_reducible assumption) | (with_reducible apply below_alloc) | (with_reducible apply below_drew1) | (with_reducible apply pw_below_drewN) | ((with_reducible refine below_set ?_ ?_); rotate_left; (first | omega | (simp; done) | (simp; omega)))))) hb); have hz := hb.size; obtain ⟨hcl, hfr, hlt, _⟩ := bcell hb; simp only [World.size_alloc, World.size_setCell, World.size_drew] at hz hcl hfr hlt; clear hb)))
    all_goals go_region
    all_goals go_wp2
    all_goals (refine bodyPost_ret (v := .tuple #[.int .u8 (sbc a b ⟨n, v, true, i, z, c⟩).1, .agg #[.bool (sbc a b ⟨n, v, true, i, z, c⟩).2.N, .bool (sbc a b ⟨n, v, true, i, z, c⟩).2.V, .bool (sbc a b ⟨n, v, true, i, z, c⟩).2.D, .bool (sbc a b ⟨n, v, true, i, z, c⟩).2.I, .bool (sbc a b ⟨n, v, true, i, z, c⟩).2.Z, .bool (sbc a b ⟨n, v, true, i, z, c⟩).2.C]]) (by (simp only [results, Try.results12]; go_simp <;> ((simp only [sbc, sbcSum, sbcHigh, sbcLow]; (repeat' split) <;> (try (exfalso; omega)) <;> (repeat' (apply And.intro)) <;> (first | rfl | omega | (simp; omega) | (simp [*]; done)))))) rfl ?_)
    all_goals exact ⟨rfl, by (repeat (first | (with_reducible exact Below.refl _ _) | ((with_reducible apply Aside0.out); with_reducible assumption) | (with_reducible apply below_alloc) | (with_reducible apply below_drew1) | (with_reducible apply pw_below_drewN) | ((with_reducible refine below_set ?_ ?_); rotate_left; (first | omega | (simp; done) | (simp; omega)))))⟩
end Go.Proofs.Ytohnclkhamccfaa
