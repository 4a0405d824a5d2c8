/- FnExactReadRow: the program's reading of a row is the reference's, for every text. -/
import Derived.Test.YthlmddcjbhacmaaDoorRowP
set_option linter.unusedVariables false
set_option linter.unusedSimpArgs false
namespace Go.Proofs.YthlmddcjbhacmaaDoor
open Go.RowKit Go.Proofs.YthlmddcjbhacmaaDoorW.PrintWords
set_option maxRecDepth 100000 in
theorem laws_eqKnow (k : Kn) (w : World) : Calls Tryd.prog 18 #[.agg #[.int .i64 k.A, .int .i64 k.X, .int .i64 k.Y, .int .i64 k.S, .int .i64 k.PC, .int .i64 k.N, .int .i64 k.V, .int .i64 k.D, .int .i64 k.I, .int .i64 k.Z, .int .i64 k.C], .agg #[.int .i64 k.A, .int .i64 k.X, .int .i64 k.Y, .int .i64 k.S, .int .i64 k.PC, .int .i64 k.N, .int .i64 k.V, .int .i64 k.D, .int .i64 k.I, .int .i64 k.Z, .int .i64 k.C]] w fun e w' => e = .returned (.bool true) ∧ Below w.heap.size w w' := by
  have HB := hR w; go_enter Tryd.func18, Tryd.ntmps18
  go_wp2_with fail
  go_ret
  exact ⟨rfl, blw⟩
set_option maxRecDepth 100000 in
set_option maxHeartbeats 1000000 in
theorem FnExactReadRow_walk0 (l : List UInt8) (w : World) (he : EnvR w) (hm : l.length ≤ 1048576) :
    Calls Tryd.prog 5 #[.string ⟨l.toArray⟩] w fun e w' => e = .returned (.bool true) ∧ Below w.heap.size w w' := by
  have hsz := ba_size l
  have h1 := fun W => spec_ReadRow l W hm
  have h2 := fun W e => impl_ReadRow l W hm e
  generalize readRow l = o at *
  generalize rrI o = i at *
  generalize rrK o = k at *
  generalize rrT o = t at *
  generalize o.isSome = b at *
  have HB := hR w; go_enter Tryd.func5, Tryd.ntmps5
  go_wp2_with fail
  refine (h1 _).mono ?_
  rintro _ w1 ⟨rfl, hb⟩
  (have HB := Aside0.mk (below_step (w := w) blw hb); have hz1 := hb.size; obtain ⟨hcl1, hfr1, hlt1, _⟩ := bcell hb; (try simp only [sA, sC, sD] at hz1); (try simp only [sA, sC, sD] at hcl1 hfr1 hlt1); have HB1 := hR w1; clear hb)
  go_wp2_with fail
  refine (h2 _ (he.below (blw))).mono ?_
  rintro _ w2 ⟨rfl, hb⟩
  (have HB := Aside0.mk (below_step (w := w) blw hb); have HB1 := Aside0.mk (below_step (w := w1) blw hb); have hz2 := hb.size; obtain ⟨hcl2, hfr2, hlt2, _⟩ := bcell hb; (try simp only [sA, sC, sD] at hz2); (try simp only [sA, sC, sD] at hcl2 hfr2 hlt2); have hk2_0 : w1.heap.size < w2.heap.size := (by omega); have HB2 := hR w2; clear hb)
  go_wp2_with fail
  refine (laws_eqKnow k _).mono ?_
  rintro _ w3 ⟨rfl, hb⟩
  (have HB := Aside0.mk (below_step (w := w) blw hb); have HB1 := Aside0.mk (below_step (w := w1) blw hb); have HB2 := Aside0.mk (below_step (w := w2) blw hb); have hz3 := hb.size; obtain ⟨hcl3, hfr3, hlt3, _⟩ := bcell hb; (try simp only [sA, sC, sD] at hz3); (try simp only [sA, sC, sD] at hcl3 hfr3 hlt3); have hk3_0 : w1.heap.size < w3.heap.size := (by omega); have hk3_1 : w2.heap.size < w3.heap.size := (by omega); have HB3 := hR w3; clear hb)
  go_wp2_with fail
  go_ret
  exact ⟨rfl, blw⟩
theorem FnExactReadRow_walk (s : ByteArray) (w : World) (hs : s.size ≤ 140737488351232) (he : EnvR w) :
    Calls Tryd.prog 5 #[.string s] w fun e w' => e = .returned (.bool true) ∧ Below w.heap.size w w' := by
  by_cases hb : (s.size : Int) ≤ 1048576
  · have hl : s.data.toList.length = s.size := by rw [Array.length_toList]; rfl
    have := FnExactReadRow_walk0 s.data.toList w he (by omega)
    rw [arr_eta] at this
    exact this
  · have HB := hR w; go_enter Tryd.func5, Tryd.ntmps5
    go_wp2_with fail
    go_ret
    exact ⟨rfl, blw⟩
end Go.Proofs.YthlmddcjbhacmaaDoor
