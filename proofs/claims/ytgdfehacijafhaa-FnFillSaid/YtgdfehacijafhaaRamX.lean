/- Memories that are copied, compared, measured and marked by the exact laws. -/
import Derived.Test.YtgdfehacijafhaaByt
import Derived.Test.YtgdfehacijafhaaCore
set_option linter.unusedVariables false
set_option linter.unusedSimpArgs false
namespace Go.Proofs.Ytgdfehacijafhaa
open Go.RowKit Go.Proofs.YtgdfehacijafhaaW.PrintWords
theorem szF_big {n m : Int} (h : n < m) : szF n m = -1 := by unfold szF; rw [if_pos (by omega)]
theorem szF_ok {n m : Int} (h : m ≤ n) : szF n m = n - m := by unfold szF; rw [if_neg (by omega)]
theorem laws_szRam (A : Option Addr) (c : Nat) (l : List Int) (n : Int) (w : World) (hl : l.length ≤ 9223372036854775807) (h0 : 0 ≤ n) (h1 : n ≤ 1048576) :
    Calls Try.prog 16 #[.agg #[.slice A l.length c], .int .i64 n] w fun e w' => e = .returned (.int .i64 (szF n l.length)) ∧ Below w.heap.size w w' := by
  by_cases h : szF n l.length < 0
  · have HB := Aside0.mk (Below.refl w.heap.size w); go_enter Try.func16, Try.ntmps16
    go_wp2_with (first | (go_at_call 48; ((with_reducible refine (laws_szByteS _ _ _ _ _ hl h0 h1).mono ?_); rintro _ _ ⟨rfl, rfl⟩)))
    go_ret
    exact ⟨ret_of (by have : szF n l.length = -1 := by { unfold szF at h ⊢; split at h <;> simp_all }
                      rw [this]; rfl), by (repeat (first | (with_reducible exact Below.refl _ _) | (with_reducible assumption) | ((with_reducible apply Aside0.out); with_reducible assumption) | (with_reducible apply below_alloc) | (with_reducible apply below_drew1) | (with_reducible apply pw_below_drewN) | ((with_reducible refine below_set ?_ ?_); rotate_left; (first | omega | (simp; done) | (simp; omega)))))⟩
  · have HB := Aside0.mk (Below.refl w.heap.size w); go_enter Try.func16, Try.ntmps16
    go_wp2_with (first | (go_at_call 48; ((with_reducible refine (laws_szByteS _ _ _ _ _ hl h0 h1).mono ?_); rintro _ _ ⟨rfl, rfl⟩)))
    go_ret
    exact ⟨rfl, by (repeat (first | (with_reducible exact Below.refl _ _) | (with_reducible assumption) | ((with_reducible apply Aside0.out); with_reducible assumption) | (with_reducible apply below_alloc) | (with_reducible apply below_drew1) | (with_reducible apply pw_below_drewN) | ((with_reducible refine below_set ?_ ?_); rotate_left; (first | omega | (simp; done) | (simp; omega)))))⟩
theorem laws_toRam (A : Option Addr) (c : Nat) (l : List Int) (w : World) (h : Bs w A l) (hl : l.length ≤ 1048576) :
    Calls Try.prog 19 #[.agg #[.slice A l.length c]] w fun e w' => ∃ A1 c1, e = .returned (.agg #[.slice A1 l.length c1]) ∧ OwnB w' w.heap.size (.slice A1 l.length c1) l ∧ Below w.heap.size w w' := by
  have HB := Aside0.mk (Below.refl w.heap.size w); go_enter Try.func19, Try.ntmps19
  go_wp2_with (first | (go_at_call 52; ((with_reducible refine (laws_toByteS _ _ _ _ (h.below (by (repeat (first | (with_reducible exact Below.refl _ _) | (with_reducible assumption) | ((with_reducible apply Aside0.out); with_reducible assumption) | (with_reducible apply below_alloc) | (with_reducible apply below_drew1) | (with_reducible apply pw_below_drewN) | ((with_reducible refine below_set ?_ ?_); rotate_left; (first | omega | (simp; done) | (simp; omega))))))) hl).mono ?_); rintro _ w1 ⟨A1, c1, rfl, ho, hb⟩; have HO := Aside0.mk ho; clear ho; have HB := Aside0.mk (below_step (w := w) (by (repeat (first | (with_reducible exact Below.refl _ _) | ((with_reducible apply Aside0.out); with_reducible assumption) | (with_reducible apply below_alloc) | (with_reducible apply below_drew1) | (with_reducible apply pw_below_drewN) | ((with_reducible refine below_set ?_ ?_); rotate_left; (first | omega | (simp; done) | (simp; omega)))))) hb); have hz := hb.size; obtain ⟨hcl, hfr, hlt, _⟩ := bcell hb; simp only [World.size_alloc, World.size_setCell, World.size_drew] at hz hcl hfr hlt; clear hb)))
  (refine bodyPost_ret (v := .agg #[.slice A1 l.length c1]) (by (simp only [results, Try.results19]; go_simp <;> (rfl))) rfl ?_)
  exact ⟨_, _, rfl, (by (apply OwnB.lower; (repeat (first | (with_reducible exact HO.out) | (with_reducible apply OwnB.alloc) | (with_reducible apply OwnB.drew) | (with_reducible apply OwnB.drewN) | (with_reducible apply OwnB.set))); all_goals (first | omega | (simp; done) | (simp; omega)))), by (repeat (first | (with_reducible exact Below.refl _ _) | (with_reducible assumption) | ((with_reducible apply Aside0.out); with_reducible assumption) | (with_reducible apply below_alloc) | (with_reducible apply below_drew1) | (with_reducible apply pw_below_drewN) | ((with_reducible refine below_set ?_ ?_); rotate_left; (first | omega | (simp; done) | (simp; omega)))))⟩
theorem laws_eqRam (A B : Option Addr) (c d : Nat) (l : List Int) (w : World) (h : Bs w A l) (h2 : Bs w B l) (hl : l.length ≤ 1048576) :
    Calls Try.prog 22 #[.agg #[.slice A l.length c], .agg #[.slice B l.length d]] w fun e w' => e = .returned (.bool true) ∧ Below w.heap.size w w' := by
  have HB := Aside0.mk (Below.refl w.heap.size w); go_enter Try.func22, Try.ntmps22
  go_wp2_with (first | (go_at_call 55; ((with_reducible refine (laws_eqByteS _ _ _ _ _ _ (h.below (by (repeat (first | (with_reducible exact Below.refl _ _) | (with_reducible assumption) | ((with_reducible apply Aside0.out); with_reducible assumption) | (with_reducible apply below_alloc) | (with_reducible apply below_drew1) | (with_reducible apply pw_below_drewN) | ((with_reducible refine below_set ?_ ?_); rotate_left; (first | omega | (simp; done) | (simp; omega))))))) (h2.below (by (repeat (first | (with_reducible exact Below.refl _ _) | (with_reducible assumption) | ((with_reducible apply Aside0.out); with_reducible assumption) | (with_reducible apply below_alloc) | (with_reducible apply below_drew1) | (with_reducible apply pw_below_drewN) | ((with_reducible refine below_set ?_ ?_); rotate_left; (first | omega | (simp; done) | (simp; omega))))))) hl).mono ?_); rintro _ w1 ⟨rfl, hb⟩; have HB := Aside0.mk (below_step (w := w) (by (repeat (first | (with_reducible exact Below.refl _ _) | ((with_reducible apply Aside0.out); with_reducible assumption) | (with_reducible apply below_alloc) | (with_reducible apply below_drew1) | (with_reducible apply pw_below_drewN) | ((with_reducible refine below_set ?_ ?_); rotate_left; (first | omega | (simp; done) | (simp; omega)))))) hb); have hz := hb.size; obtain ⟨hcl, hfr, hlt, _⟩ := bcell hb; simp only [World.size_alloc, World.size_setCell, World.size_drew] at hz hcl hfr hlt; clear hb)))
  go_ret
  exact ⟨rfl, by (repeat (first | (with_reducible exact Below.refl _ _) | (with_reducible assumption) | ((with_reducible apply Aside0.out); with_reducible assumption) | (with_reducible apply below_alloc) | (with_reducible apply below_drew1) | (with_reducible apply pw_below_drewN) | ((with_reducible refine below_set ?_ ?_); rotate_left; (first | omega | (simp; done) | (simp; omega)))))⟩
end Go.Proofs.Ytgdfehacijafhaa
