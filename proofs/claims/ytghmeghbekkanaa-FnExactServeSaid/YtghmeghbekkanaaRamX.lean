/- Memories that are copied, compared, measured and marked by the exact laws. -/
import Derived.Test.YtghmeghbekkanaaByt
import Derived.Test.YtghmeghbekkanaaCore
set_option linter.unusedVariables false
set_option linter.unusedSimpArgs false
namespace Go.Proofs.Ytghmeghbekkanaa
open Go.RowKit Go.Proofs.YtghmeghbekkanaaW.PrintWords
theorem szF_big {n m : Int} (h : n < m) : szF n m = -1 := by unfold szF; rw [if_pos (by omega)]
theorem szF_ok {n m : Int} (h : m ≤ n) : szF n m = n - m := by unfold szF; rw [if_neg (by omega)]
theorem laws_szRam (A : Option Addr) (c : Nat) (l : List Int) (n : Int) (w : World) (hl : l.length ≤ 9223372036854775807) (h0 : 0 ≤ n) (h1 : n ≤ 1048576) :
    Calls Try.prog 5 #[.agg #[.slice A l.length c], .int .i64 n] w fun e w' => e = .returned (.int .i64 (szF n l.length)) ∧ Below w.heap.size w w' := by
  by_cases h : szF n l.length < 0
  · have HB := hR w; go_enter Try.func5, Try.ntmps5
    go_wp2_with (first | (go_at_call 28; ((with_reducible refine (laws_szByteS _ _ _ _ _ hl h0 h1).mono ?_); rintro _ _ ⟨rfl, rfl⟩)))
    go_ret
    exact ⟨ret_of (by have : szF n l.length = -1 := by { unfold szF at h ⊢; split at h <;> simp_all }
                      rw [this]; rfl), blw⟩
  · have HB := hR w; go_enter Try.func5, Try.ntmps5
    go_wp2_with (first | (go_at_call 28; ((with_reducible refine (laws_szByteS _ _ _ _ _ hl h0 h1).mono ?_); rintro _ _ ⟨rfl, rfl⟩)))
    go_ret
    exact ⟨rfl, blw⟩
theorem laws_toRam (A : Option Addr) (c : Nat) (l : List Int) (w : World) (h : Bs w A l) (hl : l.length ≤ 1048576) :
    Calls Try.prog 8 #[.agg #[.slice A l.length c]] w fun e w' => ∃ A1 c1, e = .returned (.agg #[.slice A1 l.length c1]) ∧ OwnB w' w.heap.size (.slice A1 l.length c1) l ∧ Below w.heap.size w w' := by
  have HB := hR w; go_enter Try.func8, Try.ntmps8
  go_wp2_with (first | (go_at_call 33; ((with_reducible refine (laws_toByteS _ _ _ _ (h.below (blw)) hl).mono ?_); rintro _ w1 ⟨A1, c1, rfl, ho, hb⟩; have HO := Aside0.mk ho; clear ho; have HB := Aside0.mk (below_step (w := w) blw hb); have hz := hb.size; obtain ⟨hcl, hfr, hlt, _⟩ := bcell hb; simp only [sA, sC, sD] at hz hcl hfr hlt; clear hb)))
  (refine bodyPost_ret (v := .agg #[.slice A1 l.length c1]) (by (simp only [results, Try.results8]; go_simp <;> (rfl))) rfl ?_)
  exact ⟨_, _, rfl, (by (apply OwnB.lower; (repeat (first | (with_reducible exact HO.out) | (with_reducible apply OwnB.alloc) | (with_reducible apply OwnB.drew) | (with_reducible apply OwnB.drewN) | (with_reducible apply OwnB.set))); all_goals (first | omega | (simp; done) | (simp; omega)))), blw⟩
theorem laws_eqRam (A B : Option Addr) (c d : Nat) (l : List Int) (w : World) (h : Bs w A l) (h2 : Bs w B l) (hl : l.length ≤ 1048576) :
    Calls Try.prog 11 #[.agg #[.slice A l.length c], .agg #[.slice B l.length d]] w fun e w' => e = .returned (.bool true) ∧ Below w.heap.size w w' := by
  have HB := hR w; go_enter Try.func11, Try.ntmps11
  go_wp2_with (first | (go_at_call 38; ((with_reducible refine (laws_eqByteS _ _ _ _ _ _ (h.below (blw)) (h2.below (blw)) hl).mono ?_); rintro _ w1 ⟨rfl, hb⟩; have HB := Aside0.mk (below_step (w := w) blw hb); have hz := hb.size; obtain ⟨hcl, hfr, hlt, _⟩ := bcell hb; simp only [sA, sC, sD] at hz hcl hfr hlt; clear hb)))
  go_ret
  exact ⟨rfl, blw⟩
end Go.Proofs.Ytghmeghbekkanaa
