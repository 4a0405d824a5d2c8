/- FnExactUnitText: the program's text of a unit is the reference's, for every list of cycles and every two places. -/
import Derived.Test.YthlmddcjbhacmaaDoorUnit
set_option linter.unusedVariables false
set_option linter.unusedSimpArgs false
namespace Go.Proofs.YthlmddcjbhacmaaDoor
open Go.RowKit Go.Proofs.YthlmddcjbhacmaaDoorW.PrintWords
theorem FnExactUnitText_walk (A : Option Addr) (l : List Cyc) (c : Nat) (i e : Int) (w : World) (k : Cs w A l) (hr : l.length ≤ 9223372036854775807) (i0 : -9223372036854775808 ≤ i) (i1 : i ≤ 9223372036854775807) (e0 : -9223372036854775808 ≤ e) (e1 : e ≤ 9223372036854775807) (he : Env w) :
    Calls Tryd.prog 3 #[.slice A l.length c, .int .i64 i, .int .i64 e] w fun e w' => e = .returned (.bool true) ∧ Below w.heap.size w w' := by
  by_cases hb : (1048576 : Int) < l.length
  · have hs := szF_big hb
    have HB := hR w; go_enter Tryd.func3, Tryd.ntmps3
    go_wp2_with fail
    refine (laws_szCycS _ _ l.length _ _ hr (by omega) (by omega)).mono ?_
    rintro _ _ ⟨rfl, rfl⟩
    go_wp2
    go_ret
    exact ⟨rfl, blw⟩
  have hs := szF_ok (n := 1048576) (m := l.length) (by omega)
  have hl2 : l.length ≤ 1048576 := by omega
  have HB := hR w; go_enter Tryd.func3, Tryd.ntmps3
  go_wp2_with fail
  refine (laws_szCycS _ _ l.length _ _ hr (by omega) (by omega)).mono ?_
  rintro _ _ ⟨rfl, rfl⟩
  go_wp2_with fail
  refine (laws_toCycS _ _ _ _ (k.below (blw)).c hl2).mono ?_
  rintro _ w1 ⟨A1, c1, rfl, ho1, hb⟩
  (have HB := Aside0.mk (below_step (w := w) blw hb); have hz1 := hb.size; obtain ⟨hcl1, hfr1, hlt1, _⟩ := bcell hb; (try simp only [sA, sC, sD] at hz1); (try simp only [sA, sC, sD] at hcl1 hfr1 hlt1); have HB1 := hR w1; clear hb)
  have BS1 := Aside0.mk (ho1.cs k.b); have hc1 := (Kd.R_reads' ho1).2.1; clear ho1
  go_wp2_with fail
  refine (spec_UnitText _ _ _ _ _ _ (BS1.out.below (blw)) hc1).mono ?_
  rintro _ w2 ⟨rfl, hb⟩
  (have HB := Aside0.mk (below_step (w := w) blw hb); have HB1 := Aside0.mk (below_step (w := w1) blw hb); have hz2 := hb.size; obtain ⟨hcl2, hfr2, hlt2, _⟩ := bcell hb; (try simp only [sA, sC, sD] at hz2); (try simp only [sA, sC, sD] at hcl2 hfr2 hlt2); have HB2 := hR w2; clear hb)
  go_wp2_with fail
  refine (laws_toCycS _ _ _ _ (k.below (blw)).c hl2).mono ?_
  rintro _ w3 ⟨A3, c3, rfl, ho3, hb⟩
  (have HB := Aside0.mk (below_step (w := w) blw hb); have HB1 := Aside0.mk (below_step (w := w1) blw hb); have HB2 := Aside0.mk (below_step (w := w2) blw hb); have hz3 := hb.size; obtain ⟨hcl3, hfr3, hlt3, _⟩ := bcell hb; (try simp only [sA, sC, sD] at hz3); (try simp only [sA, sC, sD] at hcl3 hfr3 hlt3); have HB3 := hR w3; clear hb)
  have BS3 := Aside0.mk (ho3.cs k.b); have hc3 := (Kd.R_reads' ho3).2.1; clear ho3
  go_wp2_with fail
  refine (impl_UnitText _ _ _ _ _ _ (BS3.out.below (blw)) hc3 (he.below (blw))).mono ?_
  rintro _ w4 ⟨rfl, hb⟩
  (have HB := Aside0.mk (below_step (w := w) blw hb); have HB3 := Aside0.mk (below_step (w := w3) blw hb); have hz4 := hb.size; obtain ⟨hcl4, hfr4, hlt4, _⟩ := bcell hb; (try simp only [sA, sC, sD] at hz4); (try simp only [sA, sC, sD] at hcl4 hfr4 hlt4); have HB4 := hR w4; clear hb)
  go_wp2_with fail
  refine (laws_toCycS _ _ _ _ (k.below (blw)).c hl2).mono ?_
  rintro _ w5 ⟨A5, c5, rfl, ho5, hb⟩
  (have HB := Aside0.mk (below_step (w := w) blw hb); have HB3 := Aside0.mk (below_step (w := w3) blw hb); have HB4 := Aside0.mk (below_step (w := w4) blw hb); have hz5 := hb.size; obtain ⟨hcl5, hfr5, hlt5, _⟩ := bcell hb; (try simp only [sA, sC, sD] at hz5); (try simp only [sA, sC, sD] at hcl5 hfr5 hlt5); have HB5 := hR w5; clear hb)
  have BS5 := Aside0.mk (ho5.cs k.b); clear ho5
  go_wp2_with fail
  refine (laws_eqCycS _ _ _ _ _ _ (BS3.out.below (blw)).c (BS5.out.below (blw)).c hl2).mono ?_
  rintro _ w6 ⟨rfl, hb⟩
  (have HB := Aside0.mk (below_step (w := w) blw hb); have HB3 := Aside0.mk (below_step (w := w3) blw hb); have HB5 := Aside0.mk (below_step (w := w5) blw hb); have hz6 := hb.size; obtain ⟨hcl6, hfr6, hlt6, _⟩ := bcell hb; (try simp only [sA, sC, sD] at hz6); (try simp only [sA, sC, sD] at hcl6 hfr6 hlt6); have HB6 := hR w6; clear hb)
  go_wp2
  go_ret
  exact ⟨rfl, blw⟩
end Go.Proofs.YthlmddcjbhacmaaDoor
