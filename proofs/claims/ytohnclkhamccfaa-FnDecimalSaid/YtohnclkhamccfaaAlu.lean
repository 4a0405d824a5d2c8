/- The sums, differences and flags of the processor: what impl's functions return. -/
import Derived.Test.YtohnclkhamccfaaKit
import Derived.Test.YtohnclkhamccfaaCore
namespace Go.Proofs.Ytohnclkhamccfaa
open Go.RowKit Go.Proofs.YtohnclkhamccfaaW.PrintWords
attribute [local go_sem] u8_and1 u8_and15 u8_and240 i64_and15
theorem has7_eq (b : Int) (h0 : 0 ≤ b) (h1 : b < 256) : (b / 128 % 2 == 1) = decide (128 ≤ b) := by
  rw [Bool.eq_iff_iff]; simp; omega
theorem impl_has7 (b : Int) (w : World) (h0 : 0 ≤ b) (h1 : b < 256) :
    Calls Try.prog 36 #[.int .u8 b, .int .i64 7] w fun e w' => e = .returned (.bool (decide (128 ≤ b))) ∧ w = w' := by
  have hb := u8_and1 (b / 128) (by omega) (by omega)
  have HB := Aside0.mk (Below.refl w.heap.size w); go_enter Try.func36, Try.ntmps36
  go_wp2
  go_ret
  exact ⟨congrArg (fun x => Ending.returned (.bool x)) (has7_eq b h0 h1), rfl⟩
theorem impl_one (b : Bool) (w : World) :
    Calls Try.prog 34 #[.bool b] w fun e w' => e = .returned (.int .i64 (b2i b)) ∧ w = w' := by
  cases b
  all_goals
    have HB := Aside0.mk (Below.refl w.heap.size w); go_enter Try.func34, Try.ntmps34
    go_wp2
    go_ret
    exact ⟨rfl, rfl⟩
theorem impl_NZ (a : Int) (f : F6) (w : World) (h0 : 0 ≤ a) (h1 : a < 256) :
    Calls Try.prog 35 #[.int .u8 a, .agg #[.bool f.N, .bool f.V, .bool f.D, .bool f.I, .bool f.Z, .bool f.C]] w fun e w' => e = .returned (.agg #[.bool (nz a f).N, .bool (nz a f).V, .bool (nz a f).D, .bool (nz a f).I, .bool (nz a f).Z, .bool (nz a f).C]) ∧ Below w.heap.size w w' := by
  have HB := Aside0.mk (Below.refl w.heap.size w); go_enter Try.func35, Try.ntmps35
  go_wp2_with (first | (go_at_call 36; ((with_reducible refine (impl_has7 _ _ (by omega) (by omega)).mono ?_); rintro _ _ ⟨rfl, rfl⟩)))
  (refine bodyPost_ret (v := .agg #[.bool (nz a f).N, .bool (nz a f).V, .bool (nz a f).D, .bool (nz a f).I, .bool (nz a f).Z, .bool (nz a f).C]) (by (simp only [results, Try.results35]; go_simp <;> (simp [nz]))) rfl ?_)
  exact ⟨rfl, by (repeat (first | (with_reducible exact Below.refl _ _) | ((with_reducible apply Aside0.out); with_reducible assumption) | (with_reducible apply below_alloc) | (with_reducible apply below_drew1) | (with_reducible apply pw_below_drewN) | ((with_reducible refine below_set ?_ ?_); rotate_left; (first | omega | (simp; done) | (simp; omega)))))⟩
theorem over_same {a b c : Int} (h : decide (128 ≤ a) = decide (128 ≤ b)) : over a b c = !(decide (128 ≤ c) == decide (128 ≤ b)) := by simp [over, h]
theorem over_else {a b c : Int} (h : ¬ decide (128 ≤ a) = decide (128 ≤ b)) : over a b c = false := by simp only [over, beq_eq_false_iff_ne.2 h, Bool.false_and]
set_option maxHeartbeats 1000000 in
theorem impl_Adc (a b : Int) (f : F6) (w : World) (h0 : 0 ≤ a) (h1 : a < 256) (h2 : 0 ≤ b) (h3 : b < 256) :
    Calls Try.prog 11 #[.int .u8 a, .int .u8 b, .agg #[.bool f.N, .bool f.V, .bool f.D, .bool f.I, .bool f.Z, .bool f.C]] w fun e w' => e = .returned (.tuple #[.int .u8 (adc a b f).1, .agg #[.bool (adc a b f).2.N, .bool (adc a b f).2.V, .bool (adc a b f).2.D, .bool (adc a b f).2.I, .bool (adc a b f).2.Z, .bool (adc a b f).2.C]]) ∧ Below w.heap.size w w' := by
  obtain ⟨n, v, d, i, z, c⟩ := f
  have hb0 := b2i_lo c
  have hb1 := b2i_hi c
  dsimp only
  cases d
  case false =>
    have HB := Aside0.mk (Below.refl w.heap.size w); go_enter Try.func11, Try.ntmps11
    go_wp2_with (first | (go_at_call 34; ((with_reducible refine (impl_one _ _).mono ?_); rintro _ _ ⟨rfl, rfl⟩)) | (go_at_call 36; ((with_reducible refine (impl_has7 _ _ (by omega) (by omega)).mono ?_); rintro _ _ ⟨rfl, rfl⟩)) | (go_at_call 35; ((with_reducible refine (impl_NZ _ ⟨_, _, _, _, _, _⟩ _ (by omega) (by omega)).mono ?_); rintro _ w1 ⟨rfl, hb⟩; have HB := Aside0.mk (below_step (w := w) (by (repeat (first | (with_reducible exact Below.refl _ _) | ((with_reducible apply Aside0.out); with_reducible assumption) | (with_reducible apply below_alloc) | (with_reducible apply below_drew1) | (with_reducible apply pw_below_drewN) | ((with_reducible refine below_set ?_ ?_); rotate_left; (first | omega | (simp; done) | (simp; omega)))))) hb); have hz := hb.size; obtain ⟨hcl, hfr, hlt, _⟩ := bcell hb; simp only [World.size_alloc, World.size_setCell, World.size_drew] at hz hcl hfr hlt; clear hb)))
    all_goals go_region
    all_goals go_wp2
    all_goals (refine bodyPost_ret (v := .tuple #[.int .u8 (adc a b ⟨n, v, false, i, z, c⟩).1, .agg #[.bool (adc a b ⟨n, v, false, i, z, c⟩).2.N, .bool (adc a b ⟨n, v, false, i, z, c⟩).2.V, .bool (adc a b ⟨n, v, false, i, z, c⟩).2.D, .bool (adc a b ⟨n, v, false, i, z, c⟩).2.I, .bool (adc a b ⟨n, v, false, i, z, c⟩).2.Z, .bool (adc a b ⟨n, v, false, i, z, c⟩).2.C]]) (by (simp only [results, Try.results11]; go_simp <;> ((simp [adc, nz, over] <;> simp [*])))) rfl ?_)
    all_goals exact ⟨rfl, by (repeat (first | (with_reducible exact Below.refl _ _) | ((with_reducible apply Aside0.out); with_reducible assumption) | (with_reducible apply below_alloc) | (with_reducible apply below_drew1) | (with_reducible apply pw_below_drewN) | ((with_reducible refine below_set ?_ ?_); rotate_left; (first | omega | (simp; done) | (simp; omega)))))⟩
  case true =>
    have HB := Aside0.mk (Below.refl w.heap.size w); go_enter Try.func11, Try.ntmps11
    go_wp2_with (first | (go_at_call 34; ((with_reducible refine (impl_one _ _).mono ?_); rintro _ _ ⟨rfl, rfl⟩)) | (go_at_call 36; ((with_reducible refine (impl_has7 _ _ (by omega) (by omega)).mono ?_); rintro _ _ ⟨rfl, rfl⟩)) | (go_at_call 35; ((with_reducible refine (impl_NZ _ ⟨_, _, _, _, _, _⟩ _ (by omega) (by omega)).mono ?_); rintro _ w1 ⟨rfl, hb⟩; have HB := Aside0.mk (below_step (w := w) (by (repeat (first | (with_reducible exact Below.refl _ _) | ((with_reducible apply Aside0.out); with_reducible assumption) | (with_reducible apply below_alloc) | (with_reducible apply below_drew1) | (with_reducible apply pw_below_drewN) | ((with_reducible refine below_set ?_ ?_); rotate_left; (first | omega | (simp; done) | (simp; omega)))))) hb); have hz := hb.size; obtain ⟨hcl, hfr, hlt, _⟩ := bcell hb; simp only [World.size_alloc, World.size_setCell, World.size_drew] at hz hcl hfr hlt; clear hb)))
    all_goals go_region
    all_goals go_wp2
    all_goals (refine bodyPost_ret (v := .tuple #[.int .u8 (adc a b ⟨n, v, true, i, z, c⟩).1, .agg #[.bool (adc a b ⟨n, v, true, i, z, c⟩).2.N, .bool (adc a b ⟨n, v, true, i, z, c⟩).2.V, .bool (adc a b ⟨n, v, true, i, z, c⟩).2.D, .bool (adc a b ⟨n, v, true, i, z, c⟩).2.I, .bool (adc a b ⟨n, v, true, i, z, c⟩).2.Z, .bool (adc a b ⟨n, v, true, i, z, c⟩).2.C]]) (by (simp only [results, Try.results11]; go_simp <;> ((simp only [adc, nz, over, adcSum, adcHigh, adcLow]; (repeat' split) <;> (try (exfalso; omega)) <;> (repeat' (apply And.intro)) <;> (first | rfl | omega | (apply Bool.eq_iff_iff.2; simp; omega) | (simp; omega) | (simp [*]; done) | (simp [*]; omega)))))) rfl ?_)
    all_goals exact ⟨rfl, by (repeat (first | (with_reducible exact Below.refl _ _) | ((with_reducible apply Aside0.out); with_reducible assumption) | (with_reducible apply below_alloc) | (with_reducible apply below_drew1) | (with_reducible apply pw_below_drewN) | ((with_reducible refine below_set ?_ ?_); rotate_left; (first | omega | (simp; done) | (simp; omega)))))⟩
end Go.Proofs.Ytohnclkhamccfaa
