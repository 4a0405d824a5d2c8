/- The text of what is known, by the reference. -/
import Derived.Test.YthlmddcjbhacmaaDoorKnowQ
set_option linter.unusedVariables false
set_option linter.unusedSimpArgs false
namespace Go.Proofs.YthlmddcjbhacmaaDoor
open Go.RowKit Go.Proofs.YthlmddcjbhacmaaDoorW.PrintWords
theorem q_cut : (⟨#[63, 63, 63, 63]⟩ : ByteArray).extract 0 2 = ⟨#[63, 63]⟩ := by decide +kernel
theorem spec_digits2 (n : Int) (w : World) (h0 : -1 ≤ n) (h1 : n < 65536) :
    Calls Tryd.prog 71 #[.int .i64 n, .int .i64 2] w fun e w' => e = .returned (.string ⟨(digs n 2).toArray⟩) ∧ Below w.heap.size w w' := by
  unfold digs
  by_cases h : n < 0
  · rw [if_pos h]
    have HB := hR w; go_enter Tryd.func71, Tryd.ntmps71
    go_wp2_with fail
    go_ret
    exact ⟨rfl, blw⟩
  · rw [if_neg h]
    have HB := hR w; go_enter Tryd.func71, Tryd.ntmps71
    go_wp2_with fail
    refine (spec_Hex2 n _ (by omega) (by omega)).mono ?_
    rintro _ w1 ⟨rfl, hb⟩
    (have HB := Aside0.mk (below_step (w := w) blw hb); have hz1 := hb.size; obtain ⟨hcl1, hfr1, hlt1, _⟩ := bcell hb; (try simp only [sA, sC, sD] at hz1); (try simp only [sA, sC, sD] at hcl1 hfr1 hlt1); have HB1 := hR w1; clear hb)
    go_wp2_with fail
    go_ret
    exact ⟨rfl, blw⟩
theorem spec_digits4 (n : Int) (w : World) (h0 : -1 ≤ n) (h1 : n < 65536) :
    Calls Tryd.prog 71 #[.int .i64 n, .int .i64 4] w fun e w' => e = .returned (.string ⟨(digs n 4).toArray⟩) ∧ Below w.heap.size w w' := by
  unfold digs
  by_cases h : n < 0
  · rw [if_pos h]
    have HB := hR w; go_enter Tryd.func71, Tryd.ntmps71
    go_wp2_with fail
    go_ret
    exact ⟨rfl, blw⟩
  · rw [if_neg h]
    have HB := hR w; go_enter Tryd.func71, Tryd.ntmps71
    go_wp2_with fail
    refine (spec_Hex4 n _ (by omega) (by omega)).mono ?_
    rintro _ w1 ⟨rfl, hb⟩
    (have HB := Aside0.mk (below_step (w := w) blw hb); have hz1 := hb.size; obtain ⟨hcl1, hfr1, hlt1, _⟩ := bcell hb; (try simp only [sA, sC, sD] at hz1); (try simp only [sA, sC, sD] at hcl1 hfr1 hlt1); have HB1 := hR w1; clear hb)
    go_wp2_with fail
    go_ret
    exact ⟨rfl, blw⟩
set_option maxRecDepth 100000 in
theorem spec_KnowText (k : Kn) (w : World) :
    Calls Tryd.prog 41 #[.agg #[.int .i64 k.A, .int .i64 k.X, .int .i64 k.Y, .int .i64 k.S, .int .i64 k.PC, .int .i64 k.N, .int .i64 k.V, .int .i64 k.D, .int .i64 k.I, .int .i64 k.Z, .int .i64 k.C]] w fun e w' => e = .returned (.string ⟨(knT k).toArray⟩) ∧ Below w.heap.size w w' := by
  have hok := fun W => spec_KnowOk k W
  unfold knT
  cases hk : knOk k
  · rw [if_neg (by decide)]
    rw [hk] at hok
    have HB := hR w; go_enter Tryd.func41, Tryd.ntmps41
    go_wp2_with fail
    refine (hok _).mono ?_
    rintro _ w1 ⟨rfl, hb⟩
    (have HB := Aside0.mk (below_step (w := w) blw hb); have hz1 := hb.size; obtain ⟨hcl1, hfr1, hlt1, _⟩ := bcell hb; (try simp only [sA, sC, sD] at hz1); (try simp only [sA, sC, sD] at hcl1 hfr1 hlt1); have hk1_0 : w.heap.size < w1.heap.size := (by omega); have HB1 := hR w1; clear hb)
    go_wp2_with fail
    go_ret
    exact ⟨rfl, blw⟩
  rw [if_pos rfl]
  rw [hk] at hok
  obtain ⟨nA, nX, nY, nS, nP⟩ := knOk_b hk
  have dA := fun W => spec_digits2 k.A W nA.1 nA.2
  have dX := fun W => spec_digits2 k.X W nX.1 nX.2
  have dY := fun W => spec_digits2 k.Y W nY.1 nY.2
  have dS := fun W => spec_digits2 k.S W nS.1 nS.2
  have dP := fun W => spec_digits4 k.PC W nP.1 nP.2
  have qA := digs_len k.A 2
  have qX := digs_len k.X 2
  have qY := digs_len k.Y 2
  have qS := digs_len k.S 2
  have qP := digs_len k.PC 4
  have HB := hR w; go_enter Tryd.func41, Tryd.ntmps41
  go_wp2_with fail
  refine (hok _).mono ?_
  rintro _ w1 ⟨rfl, hb⟩
  (have HB := Aside0.mk (below_step (w := w) blw hb); have hz1 := hb.size; obtain ⟨hcl1, hfr1, hlt1, _⟩ := bcell hb; (try simp only [sA, sC, sD] at hz1); (try simp only [sA, sC, sD] at hcl1 hfr1 hlt1); have hk1_0 : w.heap.size < w1.heap.size := (by omega); have HB1 := hR w1; clear hb)
  go_wp2_with fail
  refine Calls.mono (spec_l09List k _) ?_
  rintro _ w2 ⟨g, rfl, hg, K, hb⟩
  (have HB := Aside0.mk (below_step (w := w) blw hb); have hz2 := hb.size; obtain ⟨hcl2, hfr2, hlt2, _⟩ := bcell hb; (try simp only [sA, sC, sD] at hz2); (try simp only [sA, sC, sD] at hcl2 hfr2 hlt2); have hk2_0 : w.heap.size < w2.heap.size := (by omega); have HB2 := hR w2; clear hb)
  have hlg := K.lt
  have hne : ¬ g = w.heap.size := by omega
  have g5 : w2.cell? ⟨g, 5, none⟩ = some (.int .i64 k.N) := K.cell 5
  have g6 : w2.cell? ⟨g, 6, none⟩ = some (.int .i64 k.V) := K.cell 6
  have g7 : w2.cell? ⟨g, 7, none⟩ = some (.int .i64 k.D) := K.cell 7
  have g8 : w2.cell? ⟨g, 8, none⟩ = some (.int .i64 k.I) := K.cell 8
  have g9 : w2.cell? ⟨g, 9, none⟩ = some (.int .i64 k.Z) := K.cell 9
  have g10 : w2.cell? ⟨g, 10, none⟩ = some (.int .i64 k.C) := K.cell 10
  clear K
  go_upto_region 4 with (fail)
  go_region_held3 (fun w' => w'.cell? ⟨w.heap.size, 0, none⟩ = some (.int .i64 k.A) ∧ w'.cell? ⟨w.heap.size, 1, none⟩ = some (.int .i64 k.X) ∧ w'.cell? ⟨w.heap.size, 2, none⟩ = some (.int .i64 k.Y) ∧ w'.cell? ⟨w.heap.size, 3, none⟩ = some (.int .i64 k.S) ∧ w'.cell? ⟨w.heap.size, 4, none⟩ = some (.int .i64 k.PC) ∧ w'.cell? ⟨g, 5, none⟩ = some (.int .i64 k.N) ∧ w'.cell? ⟨g, 6, none⟩ = some (.int .i64 k.V) ∧ w'.cell? ⟨g, 7, none⟩ = some (.int .i64 k.D) ∧ w'.cell? ⟨g, 8, none⟩ = some (.int .i64 k.I) ∧ w'.cell? ⟨g, 9, none⟩ = some (.int .i64 k.Z) ∧ w'.cell? ⟨g, 10, none⟩ = some (.int .i64 k.C)) (first | (go_keep; done) | (go_split_ands; (repeat' apply And.intro) <;> (first | (with_reducible assumption) | (go_simp; done) | (exact cell_keep blw (by assumption)) | exact blw))) (first | (go_at_call 71; ((with_reducible refine (dA _).mono ?_); rintro _ w3 ⟨rfl, hb⟩; have HB := Aside0.mk (below_step (w := w) blw hb); have hz3 := hb.size; obtain ⟨hcl3, hfr3, hlt3, _⟩ := bcell hb; (try simp only [sA, sC, sD] at hz3); (try simp only [sA, sC, sD] at hcl3 hfr3 hlt3); have hk3_0 : w.heap.size < w3.heap.size := (by omega); have HB3 := hR w3; clear hb; have hg3 : g < w3.heap.size := by omega)) | (go_at_call 71; ((with_reducible refine (dX _).mono ?_); rintro _ w4 ⟨rfl, hb⟩; have HB := Aside0.mk (below_step (w := w) blw hb); have hz4 := hb.size; obtain ⟨hcl4, hfr4, hlt4, _⟩ := bcell hb; (try simp only [sA, sC, sD] at hz4); (try simp only [sA, sC, sD] at hcl4 hfr4 hlt4); have hk4_0 : w.heap.size < w4.heap.size := (by omega); have HB4 := hR w4; clear hb; have hg4 : g < w4.heap.size := by omega)) | (go_at_call 71; ((with_reducible refine (dY _).mono ?_); rintro _ w5 ⟨rfl, hb⟩; have HB := Aside0.mk (below_step (w := w) blw hb); have hz5 := hb.size; obtain ⟨hcl5, hfr5, hlt5, _⟩ := bcell hb; (try simp only [sA, sC, sD] at hz5); (try simp only [sA, sC, sD] at hcl5 hfr5 hlt5); have hk5_0 : w.heap.size < w5.heap.size := (by omega); have HB5 := hR w5; clear hb; have hg5 : g < w5.heap.size := by omega)) | (go_at_call 71; ((with_reducible refine (dS _).mono ?_); rintro _ w6 ⟨rfl, hb⟩; have HB := Aside0.mk (below_step (w := w) blw hb); have hz6 := hb.size; obtain ⟨hcl6, hfr6, hlt6, _⟩ := bcell hb; (try simp only [sA, sC, sD] at hz6); (try simp only [sA, sC, sD] at hcl6 hfr6 hlt6); have hk6_0 : w.heap.size < w6.heap.size := (by omega); have HB6 := hR w6; clear hb; have hg6 : g < w6.heap.size := by omega)) | (go_at_call 71; ((with_reducible refine (dP _).mono ?_); rintro _ w7 ⟨rfl, hb⟩; have HB := Aside0.mk (below_step (w := w) blw hb); have hz7 := hb.size; obtain ⟨hcl7, hfr7, hlt7, _⟩ := bcell hb; (try simp only [sA, sC, sD] at hz7); (try simp only [sA, sC, sD] at hcl7 hfr7 hlt7); have hk7_0 : w.heap.size < w7.heap.size := (by omega); have HB7 := hR w7; clear hb; have hg7 : g < w7.heap.size := by omega)))
  go_wp2_with fail
  rw [knPre_eq]
  have FC := Aside0.mk (show FlC w7 g k from ⟨by go_simp, by go_simp, by go_simp, by go_simp, by go_simp, by go_simp⟩)
  have hlw := (World.block_lt_of_cell? w7 _ FC.out.1)
  go_loopw [4, 5] (fun v4 v5 wr => ∃ j : Nat, ∃ T : List UInt8, j ≤ 6 ∧ v5 = .int .i64 j ∧ v4 = .string ⟨T.toArray⟩ ∧ T.length = 28 + j ∧ Aside0 (T = knPre k.A k.X k.Y k.S k.PC ++ (knFl k).take j) ∧ Aside0 (FlC wr g k) ∧ Aside0 (Below w.heap.size w wr)) (fun _ v5 _ => 6 - (intOf v5).toNat)
  case atStart => exact ⟨0, _, by omega, rfl, rfl, knPre_len _ _ _ _ _, ⟨by simp⟩, FC, HB⟩
  case round =>
    obtain ⟨j, T, hj, rfl, rfl, hT, ET, FC, HB⟩ := hrel
    by_cases hlt : j < 6
    · have hx := FC.out.at j hlt
      have hb := flK_b hk j hlt
      have hst := knFl_step k j hlt
      obtain ⟨x, ex⟩ : ∃ x, flK k j = x := ⟨_, rfl⟩
      rw [ex] at hx hb hst
      have HS := Aside0.mk hst
      clear ex hst
      have hx3 : x = -1 ∨ x = 0 ∨ x = 1 := by omega
      rcases hx3 with rfl | rfl | rfl
      · go_wp2_with fail
        exact ⟨⟨j + 1, T ++ [63], by omega, by go_num, congrArg Value.string (ba_app _ [63]), by simp [hT]; omega, ⟨by rw [ET.out, HS.out, List.append_assoc]; rfl⟩, FC, HB⟩, by simp [intOf]; omega⟩
      · go_wp2_with fail
        exact ⟨⟨j + 1, T ++ [45], by omega, by go_num, congrArg Value.string (ba_app _ [45]), by simp [hT]; omega, ⟨by rw [ET.out, HS.out, List.append_assoc]; rfl⟩, FC, HB⟩, by simp [intOf]; omega⟩
      · go_wp2_with fail
        exact ⟨⟨j + 1, T ++ [fltr.getD j 0], by omega, by go_num, congrArg Value.string (by rw [fl_cut _ hlt]; exact ba_app _ [_]), by simp [hT]; omega, ⟨by rw [ET.out, HS.out, List.append_assoc]; rfl⟩, FC, HB⟩, by simp [intOf]; omega⟩
    · go_wp2_with fail
      go_ret
      obtain rfl : j = 6 := by omega
      have e := ET.out
      rw [List.take_of_length_le (by show 6 ≤ 6; omega)] at e
      exact ⟨ret_of (congrArg (fun x : List UInt8 => Value.string ⟨x.toArray⟩) e), blw⟩
end Go.Proofs.YthlmddcjbhacmaaDoor
