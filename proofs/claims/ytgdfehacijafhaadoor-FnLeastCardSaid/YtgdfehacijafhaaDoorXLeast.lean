/- FnLeast: the least and the greatest time of an operation. For every input. -/
import Derived.Test.YtgdfehacijafhaaDoorXTime
import Derived.Test.YtgdfehacijafhaaDoorDraw
set_option linter.unusedVariables false
set_option linter.unusedSimpArgs false
namespace Go.Proofs.YtgdfehacijafhaaDoor
open Go.RowKit Go.Proofs.YtgdfehacijafhaaDoorW.PrintWords
theorem spec_l01Once (g : Nat) (A : Option Addr) (c : Nat) (l : List Int) (n : Int) (w : World) (h : Cur w g A c l) (hl : l.length ≤ 1048576) (h0 : 0 ≤ n) (h1 : n ≤ 2147483648) :
    Calls Tryd.prog 53 #[.pointer (some ⟨g, 0, none⟩), .int .i64 n] w fun e w' => ∃ b, e = .returned (.bool b) ∧ Cur w' g A c l ∧ w.grownBy w' (some g) := by
  have HB := Aside0.mk (Below.refl w.heap.size w); go_enter Tryd.func53, Tryd.ntmps53
  go_wp2_with fail
  refine (spec_l01Below _ _ _ _ _ _ h hl h0 h1).mono ?_
  rintro _ w1 ⟨x, rfl, x0, x1, hc, hb⟩
  go_wp2_with fail
  go_ret
  exact ⟨_, rfl, hc, hb⟩
set_option maxHeartbeats 400000 in
theorem spec_DrawTimeOf (A : Option Addr) (c : Nat) (l : List Int) (w : World) (h : Bs w A l) (hl : l.length ≤ 1048576) :
    Calls Tryd.prog 24 #[.slice A l.length c] w fun e w' => ∃ x b1 b2, e = .returned (.tuple #[.int .u8 x, .bool b1, .bool b2]) ∧ 0 ≤ x ∧ x < 256 ∧ Below w.heap.size w w' := by
  have HB := Aside0.mk (Below.refl w.heap.size w); go_enter Tryd.func24, Tryd.ntmps24
  go_wp2_with fail
  refine (spec_l01New _ _ _ _ h hl).mono ?_
  rintro _ w1 ⟨g, rfl, g0, hc, hb⟩
  go_wp2_with fail
  refine (spec_l01Byte _ _ _ _ _ hc hl).mono ?_
  rintro _ w2 ⟨x, rfl, x0, x1, hc2, hb2⟩
  go_wp2_with fail
  refine (spec_l01Once _ _ _ _ _ _ hc2 hl (by omega) (by omega)).mono ?_
  rintro _ w3 ⟨b1, rfl, hc3, hb3⟩
  go_wp2_with fail
  refine (spec_l01Once _ _ _ _ _ _ hc3 hl (by omega) (by omega)).mono ?_
  rintro _ w4 ⟨b2, rfl, hc4, hb4⟩
  go_wp2_with fail
  go_ret3
  exact ⟨x, b1, b2, rfl, x0, x1, Below.grown hb ((hb2.trans hb3).trans hb4) hb.size (fun k e => by injection e with e; omega)⟩
theorem least_no : ∀ c : Nat, c < 256 → (nmS c = [] → ∀ x t : Bool, timeI c x t = 0) := by decide +kernel
theorem least_yes : ∀ c : Nat, c < 256 → (¬ nmS c = [] → 2 ≤ timeI c false false ∧ timeI c true true ≤ timeI c false false + 2 ∧ timeI c true true ≤ 7 ∧ ∀ x t : Bool, timeI c false false ≤ timeI c x t ∧ timeI c x t ≤ timeI c true true) := by decide +kernel
set_option maxHeartbeats 1000000 in
theorem FnLeast_walk (A : Option Addr) (l : List Int) (c : Nat) (w : World) (h : Bs w A l) (hl : l.length ≤ 9223372036854775807) (he : Env w) :
    Calls Tryd.prog 8 #[.slice A l.length c] w fun e w' => e = .returned (.bool true) ∧ Below w.heap.size w w' := by
  by_cases hb : (1048576 : Int) < l.length
  · have HB := Aside0.mk (Below.refl w.heap.size w); go_enter Tryd.func8, Tryd.ntmps8
    go_wp2_with (first | (go_at_call 23; ((with_reducible refine (laws_big _ _ _ _ (by omega)).mono ?_); rintro _ _ ⟨rfl, rfl⟩)))
    go_ret
    exact ⟨rfl, by (repeat (first | (with_reducible exact Below.refl _ _) | (with_reducible assumption) | ((with_reducible apply Aside0.out); with_reducible assumption) | (with_reducible apply below_alloc) | (with_reducible apply below_drew1) | (with_reducible apply pw_below_drewN) | ((with_reducible refine below_set ?_ ?_); rotate_left; (first | omega | (simp; done) | (simp; omega)))))⟩
  · have hl2 : l.length ≤ 1048576 := by omega
    have HB := Aside0.mk (Below.refl w.heap.size w); go_enter Tryd.func8, Tryd.ntmps8
    go_wp2_with fail
    refine (laws_big _ _ _ _ (by omega)).mono ?_
    rintro _ _ ⟨rfl, rfl⟩
    go_wp2_with fail
    refine (spec_DrawTimeOf _ _ _ _ h hl2).mono ?_
    rintro _ w1 ⟨x, b1, b2, rfl, x0, x1, hb⟩
    (have HB := Aside0.mk (below_step (w := w) (by (repeat (first | (with_reducible exact Below.refl _ _) | (with_reducible assumption) | ((with_reducible apply Aside0.out); with_reducible assumption) | (with_reducible apply below_alloc) | (with_reducible apply below_drew1) | (with_reducible apply pw_below_drewN) | ((with_reducible refine below_set ?_ ?_); rotate_left; (first | omega | (simp; done) | (simp; omega)))))) hb); have hz1 := hb.size; obtain ⟨hcl1, hfr1, hlt1, _⟩ := bcell hb; (try simp only [World.size_alloc, World.size_setCell, World.size_drew] at hz1); (try simp only [World.size_alloc, World.size_setCell, World.size_drew] at hcl1 hfr1 hlt1); have HB1 := Aside0.mk (Below.refl w1.heap.size w1); clear hb)
    have he1 := Aside0.mk (he.below HB.out)
    go_wp2_with fail
    refine (impl_TimeOf x b1 b2 _ x0 x1 he1.out).mono ?_
    rintro _ w2 ⟨rfl, hb⟩
    (have HB := Aside0.mk (below_step (w := w) (by (repeat (first | (with_reducible exact Below.refl _ _) | (with_reducible assumption) | ((with_reducible apply Aside0.out); with_reducible assumption) | (with_reducible apply below_alloc) | (with_reducible apply below_drew1) | (with_reducible apply pw_below_drewN) | ((with_reducible refine below_set ?_ ?_); rotate_left; (first | omega | (simp; done) | (simp; omega)))))) hb); have HB1 := Aside0.mk (below_step (w := w1) (by (repeat (first | (with_reducible exact Below.refl _ _) | (with_reducible assumption) | ((with_reducible apply Aside0.out); with_reducible assumption) | (with_reducible apply below_alloc) | (with_reducible apply below_drew1) | (with_reducible apply pw_below_drewN) | ((with_reducible refine below_set ?_ ?_); rotate_left; (first | omega | (simp; done) | (simp; omega)))))) hb); have hz2 := hb.size; obtain ⟨hcl2, hfr2, hlt2, _⟩ := bcell hb; (try simp only [World.size_alloc, World.size_setCell, World.size_drew] at hz2); (try simp only [World.size_alloc, World.size_setCell, World.size_drew] at hcl2 hfr2 hlt2); have HB2 := Aside0.mk (Below.refl w2.heap.size w2); clear hb)
    have he2 := Aside0.mk (he.below HB.out)
    go_wp2_with fail
    refine (impl_Least x _ x0 x1 he2.out).mono ?_
    rintro _ w3 ⟨rfl, hb⟩
    (have HB := Aside0.mk (below_step (w := w) (by (repeat (first | (with_reducible exact Below.refl _ _) | (with_reducible assumption) | ((with_reducible apply Aside0.out); with_reducible assumption) | (with_reducible apply below_alloc) | (with_reducible apply below_drew1) | (with_reducible apply pw_below_drewN) | ((with_reducible refine below_set ?_ ?_); rotate_left; (first | omega | (simp; done) | (simp; omega)))))) hb); have HB1 := Aside0.mk (below_step (w := w1) (by (repeat (first | (with_reducible exact Below.refl _ _) | (with_reducible assumption) | ((with_reducible apply Aside0.out); with_reducible assumption) | (with_reducible apply below_alloc) | (with_reducible apply below_drew1) | (with_reducible apply pw_below_drewN) | ((with_reducible refine below_set ?_ ?_); rotate_left; (first | omega | (simp; done) | (simp; omega)))))) hb); have HB2 := Aside0.mk (below_step (w := w2) (by (repeat (first | (with_reducible exact Below.refl _ _) | (with_reducible assumption) | ((with_reducible apply Aside0.out); with_reducible assumption) | (with_reducible apply below_alloc) | (with_reducible apply below_drew1) | (with_reducible apply pw_below_drewN) | ((with_reducible refine below_set ?_ ?_); rotate_left; (first | omega | (simp; done) | (simp; omega)))))) hb); have hz3 := hb.size; obtain ⟨hcl3, hfr3, hlt3, _⟩ := bcell hb; (try simp only [World.size_alloc, World.size_setCell, World.size_drew] at hz3); (try simp only [World.size_alloc, World.size_setCell, World.size_drew] at hcl3 hfr3 hlt3); have HB3 := Aside0.mk (Below.refl w3.heap.size w3); clear hb)
    have he3 := Aside0.mk (he.below HB.out)
    go_wp2_with fail
    refine (impl_Most x _ x0 x1 he3.out).mono ?_
    rintro _ w4 ⟨rfl, hb⟩
    (have HB := Aside0.mk (below_step (w := w) (by (repeat (first | (with_reducible exact Below.refl _ _) | (with_reducible assumption) | ((with_reducible apply Aside0.out); with_reducible assumption) | (with_reducible apply below_alloc) | (with_reducible apply below_drew1) | (with_reducible apply pw_below_drewN) | ((with_reducible refine below_set ?_ ?_); rotate_left; (first | omega | (simp; done) | (simp; omega)))))) hb); have HB1 := Aside0.mk (below_step (w := w1) (by (repeat (first | (with_reducible exact Below.refl _ _) | (with_reducible assumption) | ((with_reducible apply Aside0.out); with_reducible assumption) | (with_reducible apply below_alloc) | (with_reducible apply below_drew1) | (with_reducible apply pw_below_drewN) | ((with_reducible refine below_set ?_ ?_); rotate_left; (first | omega | (simp; done) | (simp; omega)))))) hb); have HB2 := Aside0.mk (below_step (w := w2) (by (repeat (first | (with_reducible exact Below.refl _ _) | (with_reducible assumption) | ((with_reducible apply Aside0.out); with_reducible assumption) | (with_reducible apply below_alloc) | (with_reducible apply below_drew1) | (with_reducible apply pw_below_drewN) | ((with_reducible refine below_set ?_ ?_); rotate_left; (first | omega | (simp; done) | (simp; omega)))))) hb); have HB3 := Aside0.mk (below_step (w := w3) (by (repeat (first | (with_reducible exact Below.refl _ _) | (with_reducible assumption) | ((with_reducible apply Aside0.out); with_reducible assumption) | (with_reducible apply below_alloc) | (with_reducible apply below_drew1) | (with_reducible apply pw_below_drewN) | ((with_reducible refine below_set ?_ ?_); rotate_left; (first | omega | (simp; done) | (simp; omega)))))) hb); have hz4 := hb.size; obtain ⟨hcl4, hfr4, hlt4, _⟩ := bcell hb; (try simp only [World.size_alloc, World.size_setCell, World.size_drew] at hz4); (try simp only [World.size_alloc, World.size_setCell, World.size_drew] at hcl4 hfr4 hlt4); have HB4 := Aside0.mk (Below.refl w4.heap.size w4); clear hb)
    go_wp2_with fail
    refine (spec_TimeOf x b1 b2 _ x0 x1).mono ?_
    rintro _ w5 ⟨rfl, hb⟩
    (have HB := Aside0.mk (below_step (w := w) (by (repeat (first | (with_reducible exact Below.refl _ _) | (with_reducible assumption) | ((with_reducible apply Aside0.out); with_reducible assumption) | (with_reducible apply below_alloc) | (with_reducible apply below_drew1) | (with_reducible apply pw_below_drewN) | ((with_reducible refine below_set ?_ ?_); rotate_left; (first | omega | (simp; done) | (simp; omega)))))) hb); have HB1 := Aside0.mk (below_step (w := w1) (by (repeat (first | (with_reducible exact Below.refl _ _) | (with_reducible assumption) | ((with_reducible apply Aside0.out); with_reducible assumption) | (with_reducible apply below_alloc) | (with_reducible apply below_drew1) | (with_reducible apply pw_below_drewN) | ((with_reducible refine below_set ?_ ?_); rotate_left; (first | omega | (simp; done) | (simp; omega)))))) hb); have HB2 := Aside0.mk (below_step (w := w2) (by (repeat (first | (with_reducible exact Below.refl _ _) | (with_reducible assumption) | ((with_reducible apply Aside0.out); with_reducible assumption) | (with_reducible apply below_alloc) | (with_reducible apply below_drew1) | (with_reducible apply pw_below_drewN) | ((with_reducible refine below_set ?_ ?_); rotate_left; (first | omega | (simp; done) | (simp; omega)))))) hb); have HB3 := Aside0.mk (below_step (w := w3) (by (repeat (first | (with_reducible exact Below.refl _ _) | (with_reducible assumption) | ((with_reducible apply Aside0.out); with_reducible assumption) | (with_reducible apply below_alloc) | (with_reducible apply below_drew1) | (with_reducible apply pw_below_drewN) | ((with_reducible refine below_set ?_ ?_); rotate_left; (first | omega | (simp; done) | (simp; omega)))))) hb); have HB4 := Aside0.mk (below_step (w := w4) (by (repeat (first | (with_reducible exact Below.refl _ _) | (with_reducible assumption) | ((with_reducible apply Aside0.out); with_reducible assumption) | (with_reducible apply below_alloc) | (with_reducible apply below_drew1) | (with_reducible apply pw_below_drewN) | ((with_reducible refine below_set ?_ ?_); rotate_left; (first | omega | (simp; done) | (simp; omega)))))) hb); have hz5 := hb.size; obtain ⟨hcl5, hfr5, hlt5, _⟩ := bcell hb; (try simp only [World.size_alloc, World.size_setCell, World.size_drew] at hz5); (try simp only [World.size_alloc, World.size_setCell, World.size_drew] at hcl5 hfr5 hlt5); have HB5 := Aside0.mk (Below.refl w5.heap.size w5); clear hb)
    go_wp2_with fail
    refine (spec_NameOf x _ x0 x1).mono ?_
    rintro _ w6 ⟨rfl, hb⟩
    (have HB := Aside0.mk (below_step (w := w) (by (repeat (first | (with_reducible exact Below.refl _ _) | (with_reducible assumption) | ((with_reducible apply Aside0.out); with_reducible assumption) | (with_reducible apply below_alloc) | (with_reducible apply below_drew1) | (with_reducible apply pw_below_drewN) | ((with_reducible refine below_set ?_ ?_); rotate_left; (first | omega | (simp; done) | (simp; omega)))))) hb); have HB1 := Aside0.mk (below_step (w := w1) (by (repeat (first | (with_reducible exact Below.refl _ _) | (with_reducible assumption) | ((with_reducible apply Aside0.out); with_reducible assumption) | (with_reducible apply below_alloc) | (with_reducible apply below_drew1) | (with_reducible apply pw_below_drewN) | ((with_reducible refine below_set ?_ ?_); rotate_left; (first | omega | (simp; done) | (simp; omega)))))) hb); have HB2 := Aside0.mk (below_step (w := w2) (by (repeat (first | (with_reducible exact Below.refl _ _) | (with_reducible assumption) | ((with_reducible apply Aside0.out); with_reducible assumption) | (with_reducible apply below_alloc) | (with_reducible apply below_drew1) | (with_reducible apply pw_below_drewN) | ((with_reducible refine below_set ?_ ?_); rotate_left; (first | omega | (simp; done) | (simp; omega)))))) hb); have HB3 := Aside0.mk (below_step (w := w3) (by (repeat (first | (with_reducible exact Below.refl _ _) | (with_reducible assumption) | ((with_reducible apply Aside0.out); with_reducible assumption) | (with_reducible apply below_alloc) | (with_reducible apply below_drew1) | (with_reducible apply pw_below_drewN) | ((with_reducible refine below_set ?_ ?_); rotate_left; (first | omega | (simp; done) | (simp; omega)))))) hb); have HB4 := Aside0.mk (below_step (w := w4) (by (repeat (first | (with_reducible exact Below.refl _ _) | (with_reducible assumption) | ((with_reducible apply Aside0.out); with_reducible assumption) | (with_reducible apply below_alloc) | (with_reducible apply below_drew1) | (with_reducible apply pw_below_drewN) | ((with_reducible refine below_set ?_ ?_); rotate_left; (first | omega | (simp; done) | (simp; omega)))))) hb); have HB5 := Aside0.mk (below_step (w := w5) (by (repeat (first | (with_reducible exact Below.refl _ _) | (with_reducible assumption) | ((with_reducible apply Aside0.out); with_reducible assumption) | (with_reducible apply below_alloc) | (with_reducible apply below_drew1) | (with_reducible apply pw_below_drewN) | ((with_reducible refine below_set ?_ ?_); rotate_left; (first | omega | (simp; done) | (simp; omega)))))) hb); have hz6 := hb.size; obtain ⟨hcl6, hfr6, hlt6, _⟩ := bcell hb; (try simp only [World.size_alloc, World.size_setCell, World.size_drew] at hz6); (try simp only [World.size_alloc, World.size_setCell, World.size_drew] at hcl6 hfr6 hlt6); have HB6 := Aside0.mk (Below.refl w6.heap.size w6); clear hb)
    have hno := of_byte (p := fun c => nmS c = [] → ∀ x t : Bool, timeI c x t = 0) least_no x x0 x1
    have hye := of_byte (p := fun c => ¬ nmS c = [] → 2 ≤ timeI c false false ∧ timeI c true true ≤ timeI c false false + 2 ∧ timeI c true true ≤ 7 ∧ ∀ x t : Bool, timeI c false false ≤ timeI c x t ∧ timeI c x t ≤ timeI c true true) least_yes x x0 x1
    by_cases hx : nmS x = []
    · rw [hx, hno hx b1 b2, hno hx false false, hno hx true true]
      clear hno hye hx
      go_wp2_with fail
      go_ret
      exact ⟨rfl, by (repeat (first | (with_reducible exact Below.refl _ _) | (with_reducible assumption) | ((with_reducible apply Aside0.out); with_reducible assumption) | (with_reducible apply below_alloc) | (with_reducible apply below_drew1) | (with_reducible apply pw_below_drewN) | ((with_reducible refine below_set ?_ ?_); rotate_left; (first | omega | (simp; done) | (simp; omega)))))⟩
    · obtain ⟨y1, y2, y3, y4⟩ := hye hx
      obtain ⟨y5, y6⟩ := y4 b1 b2
      clear y4 hno hye
      generalize timeI x b1 b2 = n at *
      generalize timeI x false false = le at *
      generalize timeI x true true = mo at *
      have hx1 : (nmS x == []) = false := beq_eq_false_iff_ne.2 hx
      have hx2 : (nmS x).isEmpty = false := by cases hh : nmS x with | nil => exact absurd hh hx | cons a t => rfl
      generalize nmS x = s at *
      go_wp2_with fail
      go_ret
      exact ⟨rfl, by (repeat (first | (with_reducible exact Below.refl _ _) | (with_reducible assumption) | ((with_reducible apply Aside0.out); with_reducible assumption) | (with_reducible apply below_alloc) | (with_reducible apply below_drew1) | (with_reducible apply pw_below_drewN) | ((with_reducible refine below_set ?_ ?_); rotate_left; (first | omega | (simp; done) | (simp; omega)))))⟩
end Go.Proofs.YtgdfehacijafhaaDoor
