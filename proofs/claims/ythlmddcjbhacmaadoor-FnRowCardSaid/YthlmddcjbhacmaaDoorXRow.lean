/- FnRow: a row is written the same by both, and read again as it was. -/
import Derived.Test.YthlmddcjbhacmaaDoorDrawP
import Derived.Test.YthlmddcjbhacmaaDoorRowO
import Derived.Test.YthlmddcjbhacmaaDoorKnowP
import Derived.Test.YthlmddcjbhacmaaDoorSlc
set_option linter.unusedVariables false
set_option linter.unusedSimpArgs false
namespace Go.Proofs.YthlmddcjbhacmaaDoor
open Go.RowKit Go.Proofs.YthlmddcjbhacmaaDoorW.PrintWords
theorem rowT_size {i : Int} (k : Kn) (t : List UInt8) (h0 : 0 ≤ i) (h1 : i ≤ 999999999) (hk : knOk k = true) (ht : t.length ≤ 1000) : (rowT i k t).length ≤ 1048576 := by
  unfold rowT
  rw [if_neg (by simp [hk]; omega), itoa_pos h0]
  have := decDigits_len 8 i.toNat (by omega)
  have := knT_len hk
  simp only [List.length_append, List.length_cons, List.length_nil]
  omega
set_option maxRecDepth 100000 in
set_option maxHeartbeats 4000000 in
theorem FnRow_walk (A : Option Addr) (l : List Int) (c : Nat) (w : World) (h : Bs w A l) (hl : l.length ≤ 9223372036854775807) (he : EnvR w) :
    Calls Tryd.prog 4 #[.slice A l.length c] w fun e w' => e = .returned (.bool true) ∧ Below w.heap.size w w' := by
  by_cases hbig : (1048576 : Int) < l.length
  · have HB := hR w; go_enter Tryd.func4, Tryd.ntmps4
    go_wp2_with (first | (go_at_call 11; ((with_reducible refine (laws_big _ _ _ _ (by omega)).mono ?_); rintro _ _ ⟨rfl, rfl⟩)))
    go_ret
    exact ⟨rfl, blw⟩
  have hl2 : l.length ≤ 1048576 := by omega
  have HB := hR w; go_enter Tryd.func4, Tryd.ntmps4
  go_wp2_with fail
  refine (laws_big _ _ _ _ (by omega)).mono ?_
  rintro _ _ ⟨rfl, rfl⟩
  go_wp2_with fail
  refine Calls.mono (spec_DrawRow A c l _ h hl2) ?_
  rintro _ w1 ⟨i, k, t, rfl, i0, i1, ht, hb⟩
  (have HB := Aside0.mk (below_step (w := w) blw hb); have hz1 := hb.size; obtain ⟨hcl1, hfr1, hlt1, _⟩ := bcell hb; (try simp only [sA, sC, sD] at hz1); (try simp only [sA, sC, sD] at hcl1 hfr1 hlt1); have HB1 := hR w1; clear hb)
  have hR1 := fun W e => impl_Row i k t W (by omega) (by omega) e
  have hR2 := fun W => spec_Row i k t W (by omega) (by omega)
  have hok := fun W => spec_KnowOk k W
  obtain ⟨r, hr⟩ : ∃ r, rowT i k t = r := ⟨_, rfl⟩
  obtain ⟨o, ho⟩ : ∃ o, knOk k = o := ⟨_, rfl⟩
  have HRR := Aside0.mk (fun (a : 0 ≤ i) (b : i ≤ 999999999) (d : o = true) => (show readRow r = some (i, k, t) ∧ r.length ≤ 1048576 by rw [← hr]; exact ⟨readRow_rowT a b (by rw [ho, d]), rowT_size k t a b (by rw [ho, d]) ht⟩))
  rw [hr] at hR1 hR2
  rw [ho] at hok
  clear hr ho
  go_wp2_with fail
  refine Calls.mono (hR1 _ (he.below (blw))) ?_
  rintro _ w2 ⟨rfl, hb⟩
  (have HB := Aside0.mk (below_step (w := w) blw hb); have HB1 := Aside0.mk (below_step (w := w1) blw hb); have hz2 := hb.size; obtain ⟨hcl2, hfr2, hlt2, _⟩ := bcell hb; (try simp only [sA, sC, sD] at hz2); (try simp only [sA, sC, sD] at hcl2 hfr2 hlt2); have hk2_0 : w1.heap.size < w2.heap.size := (by omega); have HB2 := hR w2; clear hb)
  go_wp2_with fail
  refine Calls.mono (hR2 _) ?_
  rintro _ w3 ⟨rfl, hb⟩
  (have HB := Aside0.mk (below_step (w := w) blw hb); have HB1 := Aside0.mk (below_step (w := w1) blw hb); have HB2 := Aside0.mk (below_step (w := w2) blw hb); have hz3 := hb.size; obtain ⟨hcl3, hfr3, hlt3, _⟩ := bcell hb; (try simp only [sA, sC, sD] at hz3); (try simp only [sA, sC, sD] at hcl3 hfr3 hlt3); have hk3_0 : w1.heap.size < w3.heap.size := (by omega); have HB3 := hR w3; clear hb)
  by_cases hi0 : i < 0
  · go_wp2_with fail
    go_ret
    exact ⟨rfl, blw⟩
  by_cases hi9 : 999999999 < i
  · go_wp2_with fail
    go_ret
    exact ⟨rfl, blw⟩
  cases o
  · go_wp2_with fail
    refine Calls.mono (hok _) ?_
    rintro _ w4 ⟨rfl, hb⟩
    (have HB := Aside0.mk (below_step (w := w) blw hb); have HB1 := Aside0.mk (below_step (w := w1) blw hb); have HB2 := Aside0.mk (below_step (w := w2) blw hb); have HB3 := Aside0.mk (below_step (w := w3) blw hb); have hz4 := hb.size; obtain ⟨hcl4, hfr4, hlt4, _⟩ := bcell hb; (try simp only [sA, sC, sD] at hz4); (try simp only [sA, sC, sD] at hcl4 hfr4 hlt4); have hk4_0 : w1.heap.size < w4.heap.size := (by omega); have HB4 := hR w4; clear hb)
    go_wp2_with fail
    go_ret
    exact ⟨rfl, blw⟩
  obtain ⟨hrr, hrl⟩ := HRR.out (by omega) (by omega) rfl
  have h16 : ∀ W (e : EnvR W), Calls Tryd.prog 16 #[.string ⟨r.toArray⟩] W fun e w' => e = .returned (.tuple #[.int .i64 i, .agg #[.int .i64 k.A, .int .i64 k.X, .int .i64 k.Y, .int .i64 k.S, .int .i64 k.PC, .int .i64 k.N, .int .i64 k.V, .int .i64 k.D, .int .i64 k.I, .int .i64 k.Z, .int .i64 k.C], .string ⟨t.toArray⟩, .bool true]) ∧ Below W.heap.size W w' := fun W e => by
    have hh := impl_ReadRow r W hrl e
    rw [hrr] at hh
    exact hh
  clear hrr hrl
  go_wp2_with fail
  refine Calls.mono (hok _) ?_
  rintro _ w4 ⟨rfl, hb⟩
  (have HB := Aside0.mk (below_step (w := w) blw hb); have HB1 := Aside0.mk (below_step (w := w1) blw hb); have HB2 := Aside0.mk (below_step (w := w2) blw hb); have HB3 := Aside0.mk (below_step (w := w3) blw hb); have hz4 := hb.size; obtain ⟨hcl4, hfr4, hlt4, _⟩ := bcell hb; (try simp only [sA, sC, sD] at hz4); (try simp only [sA, sC, sD] at hcl4 hfr4 hlt4); have hk4_0 : w1.heap.size < w4.heap.size := (by omega); have HB4 := hR w4; clear hb)
  go_wp2_with fail
  refine Calls.mono (h16 _ (he.below (blw))) ?_
  rintro _ w5 ⟨rfl, hb⟩
  (have HB := Aside0.mk (below_step (w := w) blw hb); have HB1 := Aside0.mk (below_step (w := w1) blw hb); have HB2 := Aside0.mk (below_step (w := w2) blw hb); have HB3 := Aside0.mk (below_step (w := w3) blw hb); have HB4 := Aside0.mk (below_step (w := w4) blw hb); have hz5 := hb.size; obtain ⟨hcl5, hfr5, hlt5, _⟩ := bcell hb; (try simp only [sA, sC, sD] at hz5); (try simp only [sA, sC, sD] at hcl5 hfr5 hlt5); have hk5_0 : w1.heap.size < w5.heap.size := (by omega); have HB5 := hR w5; clear hb)
  go_wp2_with fail
  go_ret
  exact ⟨rfl, blw⟩
end Go.Proofs.YthlmddcjbhacmaaDoor
