/- FnDecimal: two numbers of two decimal digits add decimally with D, and are taken from one another. For every input. -/
import Derived.Test.YtohnclkhamccfaaAlu2
import Derived.Test.YtohnclkhamccfaaSlc
import Derived.Test.YtohnclkhamccfaaDecLaw
namespace Go.Proofs.Ytohnclkhamccfaa
open Go.RowKit Go.Proofs.YtohnclkhamccfaaW.PrintWords
theorem FnDecimal_walk (A : Option Addr) (c : Nat) (l : List Int) (w : World) (h : Bs w A l) (hl : l.length ≤ 9223372036854775807) :
    Calls Try.prog 3 #[.slice A l.length c] w fun e w' => e = .returned (.bool true) ∧ Below w.heap.size w w' := by
  by_cases hb : 1048576 < l.length
  · have HB := Aside0.mk (Below.refl w.heap.size w); go_enter Try.func3, Try.ntmps3
    go_wp2_with (first | (go_at_call 9; ((with_reducible refine (laws_big _ _ _ _ (by omega)).mono ?_); rintro _ _ ⟨rfl, rfl⟩)))
    go_ret
    exact ⟨rfl, by (repeat (first | (with_reducible exact Below.refl _ _) | ((with_reducible apply Aside0.out); with_reducible assumption) | (with_reducible apply below_alloc) | (with_reducible apply below_drew1) | (with_reducible apply pw_below_drewN) | ((with_reducible refine below_set ?_ ?_); rotate_left; (first | omega | (simp; done) | (simp; omega)))))⟩
  · have b0 := atF_b h 0
    have b1 := atF_b h 1
    have b2 := atF_b h 2
    obtain ⟨k, hk⟩ : ∃ k, (atF l 2 % 2 == 1) = k := ⟨_, rfl⟩
    obtain ⟨x, hx⟩ : ∃ x, atF l 0 % 100 = x := ⟨_, rfl⟩
    obtain ⟨y, hy⟩ : ∃ x, atF l 1 % 100 = x := ⟨_, rfl⟩
    have x0 : 0 ≤ x := by omega
    have x1 : x < 100 := by omega
    have y0 : 0 ≤ y := by omega
    have y1 : y < 100 := by omega
    obtain ⟨e1, e2, e3, e4⟩ := dec_all x y k x0 x1 y0 y1
    cases k
    case false =>
      simp only [b2i, if_true, if_false, Bool.false_eq_true, Int.add_zero] at e1 e2
      simp at e1 e2 e3 e4
      replace e1 := beq_iff_eq.2 e1
      replace e2 := beq_iff_eq.2 e2
      replace e3 := beq_iff_eq.2 e3
      replace e4 := beq_iff_eq.2 e4
      have q1 := adc_lo (x / 10 * 16 + x % 10) (y / 10 * 16 + y % 10) ⟨false, false, true, false, false, false⟩
      have q2 := adc_hi (x / 10 * 16 + x % 10) (y / 10 * 16 + y % 10) ⟨false, false, true, false, false, false⟩
      have q3 := sbc_lo (x / 10 * 16 + x % 10) (y / 10 * 16 + y % 10) ⟨false, false, true, false, false, true⟩
      have q4 := sbc_hi (x / 10 * 16 + x % 10) (y / 10 * 16 + y % 10) ⟨false, false, true, false, false, true⟩
      have HB := Aside0.mk (Below.refl w.heap.size w); go_enter Try.func3, Try.ntmps3
      go_wp2_with (first | (go_at_call 9; ((with_reducible refine (laws_big _ _ _ _ (by omega)).mono ?_); rintro _ _ ⟨rfl, rfl⟩)) | (go_at_call 10; ((with_reducible refine (laws_at _ _ _ _ _ h (by omega) (by omega) (by omega)).mono ?_); rintro _ _ ⟨rfl, rfl⟩)) | (go_at_call 11; ((with_reducible refine (impl_Adc _ _ ⟨_, _, _, _, _, _⟩ _ (by omega) (by omega) (by omega) (by omega)).mono ?_); rintro _ w1 ⟨rfl, hb⟩; have HB := Aside0.mk (below_step (w := w) (by (repeat (first | (with_reducible exact Below.refl _ _) | ((with_reducible apply Aside0.out); with_reducible assumption) | (with_reducible apply below_alloc) | (with_reducible apply below_drew1) | (with_reducible apply pw_below_drewN) | ((with_reducible refine below_set ?_ ?_); rotate_left; (first | omega | (simp; done) | (simp; omega)))))) hb); have hz := hb.size; obtain ⟨hcl, hfr, hlt, _⟩ := bcell hb; simp only [World.size_alloc, World.size_setCell, World.size_drew] at hz hcl hfr hlt; clear hb)) | (go_at_call 12; ((with_reducible refine (impl_Sbc _ _ ⟨_, _, _, _, _, _⟩ _ (by omega) (by omega) (by omega) (by omega)).mono ?_); rintro _ w1 ⟨rfl, hb⟩; have HB := Aside0.mk (below_step (w := w) (by (repeat (first | (with_reducible exact Below.refl _ _) | ((with_reducible apply Aside0.out); with_reducible assumption) | (with_reducible apply below_alloc) | (with_reducible apply below_drew1) | (with_reducible apply pw_below_drewN) | ((with_reducible refine below_set ?_ ?_); rotate_left; (first | omega | (simp; done) | (simp; omega)))))) hb); have hz := hb.size; obtain ⟨hcl, hfr, hlt, _⟩ := bcell hb; simp only [World.size_alloc, World.size_setCell, World.size_drew] at hz hcl hfr hlt; clear hb)))
      go_ret
      exact ⟨rfl, by (repeat (first | (with_reducible exact Below.refl _ _) | ((with_reducible apply Aside0.out); with_reducible assumption) | (with_reducible apply below_alloc) | (with_reducible apply below_drew1) | (with_reducible apply pw_below_drewN) | ((with_reducible refine below_set ?_ ?_); rotate_left; (first | omega | (simp; done) | (simp; omega)))))⟩
    case true =>
      simp only [b2i, if_true, if_false, Bool.false_eq_true, Int.add_zero] at e1 e2
      simp at e1 e2 e3 e4
      replace e1 := beq_iff_eq.2 e1
      replace e2 := beq_iff_eq.2 e2
      replace e3 := beq_iff_eq.2 e3
      replace e4 := beq_iff_eq.2 e4
      have q1 := adc_lo (x / 10 * 16 + x % 10) (y / 10 * 16 + y % 10) ⟨false, false, true, false, false, true⟩
      have q2 := adc_hi (x / 10 * 16 + x % 10) (y / 10 * 16 + y % 10) ⟨false, false, true, false, false, true⟩
      have q3 := sbc_lo (x / 10 * 16 + x % 10) (y / 10 * 16 + y % 10) ⟨false, false, true, false, false, true⟩
      have q4 := sbc_hi (x / 10 * 16 + x % 10) (y / 10 * 16 + y % 10) ⟨false, false, true, false, false, true⟩
      have HB := Aside0.mk (Below.refl w.heap.size w); go_enter Try.func3, Try.ntmps3
      go_wp2_with (first | (go_at_call 9; ((with_reducible refine (laws_big _ _ _ _ (by omega)).mono ?_); rintro _ _ ⟨rfl, rfl⟩)) | (go_at_call 10; ((with_reducible refine (laws_at _ _ _ _ _ h (by omega) (by omega) (by omega)).mono ?_); rintro _ _ ⟨rfl, rfl⟩)) | (go_at_call 11; ((with_reducible refine (impl_Adc _ _ ⟨_, _, _, _, _, _⟩ _ (by omega) (by omega) (by omega) (by omega)).mono ?_); rintro _ w1 ⟨rfl, hb⟩; have HB := Aside0.mk (below_step (w := w) (by (repeat (first | (with_reducible exact Below.refl _ _) | ((with_reducible apply Aside0.out); with_reducible assumption) | (with_reducible apply below_alloc) | (with_reducible apply below_drew1) | (with_reducible apply pw_below_drewN) | ((with_reducible refine below_set ?_ ?_); rotate_left; (first | omega | (simp; done) | (simp; omega)))))) hb); have hz := hb.size; obtain ⟨hcl, hfr, hlt, _⟩ := bcell hb; simp only [World.size_alloc, World.size_setCell, World.size_drew] at hz hcl hfr hlt; clear hb)) | (go_at_call 12; ((with_reducible refine (impl_Sbc _ _ ⟨_, _, _, _, _, _⟩ _ (by omega) (by omega) (by omega) (by omega)).mono ?_); rintro _ w1 ⟨rfl, hb⟩; have HB := Aside0.mk (below_step (w := w) (by (repeat (first | (with_reducible exact Below.refl _ _) | ((with_reducible apply Aside0.out); with_reducible assumption) | (with_reducible apply below_alloc) | (with_reducible apply below_drew1) | (with_reducible apply pw_below_drewN) | ((with_reducible refine below_set ?_ ?_); rotate_left; (first | omega | (simp; done) | (simp; omega)))))) hb); have hz := hb.size; obtain ⟨hcl, hfr, hlt, _⟩ := bcell hb; simp only [World.size_alloc, World.size_setCell, World.size_drew] at hz hcl hfr hlt; clear hb)))
      go_ret
      exact ⟨rfl, by (repeat (first | (with_reducible exact Below.refl _ _) | ((with_reducible apply Aside0.out); with_reducible assumption) | (with_reducible apply below_alloc) | (with_reducible apply below_drew1) | (with_reducible apply pw_below_drewN) | ((with_reducible refine below_set ?_ ?_); rotate_left; (first | omega | (simp; done) | (simp; omega)))))⟩
end Go.Proofs.Ytohnclkhamccfaa
