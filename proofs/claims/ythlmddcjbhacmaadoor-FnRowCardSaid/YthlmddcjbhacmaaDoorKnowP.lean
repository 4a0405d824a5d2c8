/- What is known of a processor, by the reference: its parts, whether it is right. -/
import Derived.Test.YthlmddcjbhacmaaDoorKnow
set_option linter.unusedVariables false
set_option linter.unusedSimpArgs false
namespace Go.Proofs.YthlmddcjbhacmaaDoor
open Go.RowKit Go.Proofs.YthlmddcjbhacmaaDoorW.PrintWords
set_option maxRecDepth 20000 in
theorem spec_l09List (k : Kn) (w : World) :
    Calls Tryd.prog 42 #[.agg #[.int .i64 k.A, .int .i64 k.X, .int .i64 k.Y, .int .i64 k.S, .int .i64 k.PC, .int .i64 k.N, .int .i64 k.V, .int .i64 k.D, .int .i64 k.I, .int .i64 k.Z, .int .i64 k.C]] w fun e w' => ∃ g, e = .returned (.slice (some ⟨g, 0, none⟩) 11 11) ∧ w.heap.size ≤ g ∧ Blk w' g #[.int .i64 k.A, .int .i64 k.X, .int .i64 k.Y, .int .i64 k.S, .int .i64 k.PC, .int .i64 k.N, .int .i64 k.V, .int .i64 k.D, .int .i64 k.I, .int .i64 k.Z, .int .i64 k.C] 3 ∧ Below w.heap.size w w' := by
  have HB := hR w; go_enter Tryd.func42, Tryd.ntmps42
  go_wp2_with fail
  go_ret
  exact ⟨_, rfl, by omega, Blk.at (by simp), blw⟩
theorem spec_l09Most (i : Nat) (w : World) :
    Calls Tryd.prog 43 #[.int .i64 i] w fun e w' => e = .returned (.int .i64 (mostK i)) ∧ w = w' := by
  unfold mostK
  by_cases h : i < 4
  · have h' : (i : Int) < 4 := by omega
    rw [if_pos h]
    have HB := hR w; go_enter Tryd.func43, Tryd.ntmps43
    go_wp2
    go_ret
    exact ⟨rfl, rfl⟩
  · have h' : ¬ (i : Int) < 4 := by omega
    rw [if_neg h]
    by_cases h4 : i = 4
    · subst h4
      have HB := hR w; go_enter Tryd.func43, Tryd.ntmps43
      go_wp2
      go_ret
      exact ⟨rfl, rfl⟩
    · have h4' : ¬ (i : Int) = 4 := by omega
      rw [if_neg h4]
      have HB := hR w; go_enter Tryd.func43, Tryd.ntmps43
      go_wp2
      go_ret
      exact ⟨rfl, rfl⟩
set_option maxRecDepth 20000 in
theorem spec_KnowOk (k : Kn) (w : World) :
    Calls Tryd.prog 15 #[.agg #[.int .i64 k.A, .int .i64 k.X, .int .i64 k.Y, .int .i64 k.S, .int .i64 k.PC, .int .i64 k.N, .int .i64 k.V, .int .i64 k.D, .int .i64 k.I, .int .i64 k.Z, .int .i64 k.C]] w fun e w' => e = .returned (.bool (knOk k)) ∧ Below w.heap.size w w' := by
  have HB := hR w; go_enter Tryd.func15, Tryd.ntmps15
  go_wp2_with fail
  refine Calls.mono (spec_l09List k _) ?_
  rintro _ w2 ⟨g, rfl, hg, K, hb⟩
  have K := Aside0.mk K
  (have HB := Aside0.mk (below_step (w := w) blw hb); have hz2 := hb.size; obtain ⟨hcl2, hfr2, hlt2, _⟩ := bcell hb; (try simp only [sA, sC, sD] at hz2); (try simp only [sA, sC, sD] at hcl2 hfr2 hlt2); have HB2 := hR w2; clear hb)
  have hgw : w.heap.size < g := by simp at hg; omega
  go_wp2_with fail
  go_loopw [4] (fun v4 wr => ∃ j : Nat, j ≤ 11 ∧ v4 = .int .i64 j ∧ Aside0 (∀ i, i < j → inR (k.l.getD i 0) (mostK i) = true) ∧ Aside0 (Blk wr g #[.int .i64 k.A, .int .i64 k.X, .int .i64 k.Y, .int .i64 k.S, .int .i64 k.PC, .int .i64 k.N, .int .i64 k.V, .int .i64 k.D, .int .i64 k.I, .int .i64 k.Z, .int .i64 k.C] 3) ∧ Aside0 (Below w.heap.size w wr)) (fun v4 _ => 11 - (intOf v4).toNat)
  case atStart => exact ⟨0, by omega, rfl, ⟨fun i hi => by omega⟩, K, HB⟩
  case round =>
    obtain ⟨j, hj, rfl, HA, K, HB⟩ := hrel
    by_cases hlt : j < 11
    · have hx := Kn.cell K.out j hlt
      obtain ⟨x, ex⟩ : ∃ x, k.l.getD j 0 = x := ⟨_, rfl⟩
      rw [ex] at hx
      have hlw := K.out.lt
      have hmo := fun W => spec_l09Most j W
      have hwi := fun W => spec_l01In x (-1) (mostK j) W
      rw [show (decide (-1 ≤ x) && decide (x ≤ mostK j)) = inR x (mostK j) from rfl] at hwi
      obtain ⟨b, eb⟩ : ∃ b, inR x (mostK j) = b := ⟨_, rfl⟩
      rw [eb] at hwi
      have hj0 : (0 : Int) ≤ (j : Int) := by omega
      have hj1 : (j : Int) < 11 := by omega
      have EB := Aside0.mk (show inR (k.l.getD j 0) (mostK j) = b by rw [ex, eb])
      clear ex eb
      generalize mostK j = m at hmo hwi
      cases b
      rotate_left
      · go_wp2_with fail
        go_region_held3 (fun w' => w'.cell? ⟨g, j, none⟩ = some (.int .i64 x)) (first | (go_keep; done) | (go_split_ands; (repeat' apply And.intro) <;> (first | (with_reducible assumption) | (go_simp; done) | (exact cell_keep blw (by assumption)) | exact blw))) (first | (go_at_call 43; ((with_reducible refine (hmo _).mono ?_); rintro _ _ ⟨rfl, rfl⟩)) | (go_at_call 19; ((with_reducible refine (hwi _).mono ?_); rintro _ _ ⟨rfl, rfl⟩)))
        go_wp2_with fail
        exact ⟨⟨j + 1, by omega, by go_num, ⟨all_step HA.out EB.out⟩, ⟨K.out.drew⟩, ⟨blw⟩⟩, by simp [intOf]; omega⟩
      · go_wp2_with fail
        go_region_held3 (fun w' => w'.cell? ⟨g, j, none⟩ = some (.int .i64 x)) (first | (go_keep; done) | (go_split_ands; (repeat' apply And.intro) <;> (first | (with_reducible assumption) | (go_simp; done) | (exact cell_keep blw (by assumption)) | exact blw))) (first | (go_at_call 43; ((with_reducible refine (hmo _).mono ?_); rintro _ _ ⟨rfl, rfl⟩)) | (go_at_call 19; ((with_reducible refine (hwi _).mono ?_); rintro _ _ ⟨rfl, rfl⟩)))
        go_wp2_with fail
        go_ret
        exact ⟨ret_of (congrArg Value.bool (knOk_no hlt EB.out).symm), blw⟩
    · go_wp2
      go_ret
      exact ⟨ret_of (congrArg Value.bool ((knOk_iff k).2 (fun i hi => HA.out i (by omega))).symm), blw⟩
end Go.Proofs.YthlmddcjbhacmaaDoor
