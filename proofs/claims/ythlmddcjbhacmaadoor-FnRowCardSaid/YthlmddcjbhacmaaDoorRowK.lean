/- Rows, written by the program and the reference. -/
import Derived.Test.YthlmddcjbhacmaaDoorRowJ
import Derived.Test.YthlmddcjbhacmaaDoorKnowR
set_option linter.unusedVariables false
set_option linter.unusedSimpArgs false
namespace Go.Proofs.YthlmddcjbhacmaaDoor
open Go.RowKit Go.Proofs.YthlmddcjbhacmaaDoorW.PrintWords
theorem itoa_len (i : Int) (h0 : 0 ≤ i) (h1 : i ≤ 9223372036854775807) : (Lib.itoa i).length ≤ 19 := by
  rw [itoa_pos h0]
  exact decDigits_len 18 i.toNat (by have : (10 : Nat) ^ (18 + 1) = 10000000000000000000 := by decide
                                     omega)
set_option maxRecDepth 100000 in
theorem impl_Row (i : Int) (k : Kn) (t : List UInt8) (w : World) (i1 : i ≤ 9223372036854775807) (ht : t.length ≤ 281474976710656) (he : EnvR w) :
    Calls Tryd.prog 13 #[.int .i64 i, .agg #[.int .i64 k.A, .int .i64 k.X, .int .i64 k.Y, .int .i64 k.S, .int .i64 k.PC, .int .i64 k.N, .int .i64 k.V, .int .i64 k.D, .int .i64 k.I, .int .i64 k.Z, .int .i64 k.C], .string ⟨t.toArray⟩] w fun e w' => e = .returned (.string ⟨(rowT i k t).toArray⟩) ∧ Below w.heap.size w w' := by
  have hok := fun W => impl_KnowOk k W
  unfold rowT
  by_cases hi : i < 0
  · rw [if_pos (.inl hi)]
    have HB := hR w; go_enter Tryd.func13, Tryd.ntmps13
    go_wp2_with fail
    go_ret
    exact ⟨rfl, blw⟩
  cases hk : knOk k
  · rw [if_pos (.inr rfl)]
    rw [hk] at hok
    have HB := hR w; go_enter Tryd.func13, Tryd.ntmps13
    go_wp2_with fail
    refine (hok _).mono ?_
    rintro _ w1 ⟨rfl, hb⟩
    (have HB := Aside0.mk (below_step (w := w) blw hb); have hz1 := hb.size; obtain ⟨hcl1, hfr1, hlt1, _⟩ := bcell hb; (try simp only [sA, sC, sD] at hz1); (try simp only [sA, sC, sD] at hcl1 hfr1 hlt1); have hk1_0 : w.heap.size < w1.heap.size := (by omega); have HB1 := hR w1; clear hb)
    go_wp2_with fail
    go_ret
    exact ⟨rfl, blw⟩
  rw [if_neg (by rintro (h | h) <;> first | omega | cases h)]
  rw [hk] at hok
  have hdt := fun W e => impl_DecText i W (by omega) i1 e
  have hkt := fun W => impl_KnowText k W
  have qk := knT_len hk
  have qd := itoa_len i (by omega) i1
  have qt := ba_size t
  have hi0 : 0 ≤ i := by omega
  generalize hX : Lib.itoa i = X at *
  generalize hY : knT k = Y at *
  have s1 : (9223372036854775807 < X.length + 1) = False := eq_false (by omega)
  have s2 : (9223372036854775807 < X.length + 1 + 34) = False := eq_false (by omega)
  have s3 : (9223372036854775807 < X.length + 1 + 34 + 1) = False := eq_false (by omega)
  have s4 : (9223372036854775807 < X.length + 1 + 34 + 1 + t.length) = False := eq_false (by omega)
  have HB := hR w; go_enter Tryd.func13, Tryd.ntmps13
  go_wp2_with fail
  refine (hok _).mono ?_
  rintro _ w1 ⟨rfl, hb⟩
  (have HB := Aside0.mk (below_step (w := w) blw hb); have hz1 := hb.size; obtain ⟨hcl1, hfr1, hlt1, _⟩ := bcell hb; (try simp only [sA, sC, sD] at hz1); (try simp only [sA, sC, sD] at hcl1 hfr1 hlt1); have hk1_0 : w.heap.size < w1.heap.size := (by omega); have HB1 := hR w1; clear hb)
  go_wp2_with fail
  go_region_held3 (fun w' => w'.cell? ⟨w.heap.size, 0, none⟩ = some (.int .i64 k.A) ∧ w'.cell? ⟨w.heap.size, 1, none⟩ = some (.int .i64 k.X) ∧ w'.cell? ⟨w.heap.size, 2, none⟩ = some (.int .i64 k.Y) ∧ w'.cell? ⟨w.heap.size, 3, none⟩ = some (.int .i64 k.S) ∧ w'.cell? ⟨w.heap.size, 4, none⟩ = some (.int .i64 k.PC) ∧ w'.cell? ⟨w.heap.size, 5, none⟩ = some (.int .i64 k.N) ∧ w'.cell? ⟨w.heap.size, 6, none⟩ = some (.int .i64 k.V) ∧ w'.cell? ⟨w.heap.size, 7, none⟩ = some (.int .i64 k.D) ∧ w'.cell? ⟨w.heap.size, 8, none⟩ = some (.int .i64 k.I) ∧ w'.cell? ⟨w.heap.size, 9, none⟩ = some (.int .i64 k.Z) ∧ w'.cell? ⟨w.heap.size, 10, none⟩ = some (.int .i64 k.C)) (first | (go_keep; done) | (go_split_ands; (repeat' apply And.intro) <;> (first | (with_reducible assumption) | (go_simp; done) | (exact cell_keep blw (by assumption)) | exact blw))) (first | (go_at_call 38; ((with_reducible refine (hdt _ (he.below (blw))).mono ?_); rintro _ w2 ⟨rfl, hb⟩; have HB := Aside0.mk (below_step (w := w) blw hb); have hz2 := hb.size; obtain ⟨hcl2, hfr2, hlt2, _⟩ := bcell hb; (try simp only [sA, sC, sD] at hz2); (try simp only [sA, sC, sD] at hcl2 hfr2 hlt2); have hk2_0 : w.heap.size < w2.heap.size := (by omega); have HB2 := hR w2; clear hb)) | (go_at_call 39; ((with_reducible refine (hkt _).mono ?_); rintro _ w3 ⟨rfl, hb⟩; have HB := Aside0.mk (below_step (w := w) blw hb); have hz3 := hb.size; obtain ⟨hcl3, hfr3, hlt3, _⟩ := bcell hb; (try simp only [sA, sC, sD] at hz3); (try simp only [sA, sC, sD] at hcl3 hfr3 hlt3); have hk3_0 : w.heap.size < w3.heap.size := (by omega); have HB3 := hR w3; clear hb)))
  go_wp2_with fail
  go_ret
  exact ⟨ret_of (congrArg Value.string (by apply ByteArray.ext; simp)), blw⟩
set_option maxRecDepth 100000 in
theorem spec_Row (i : Int) (k : Kn) (t : List UInt8) (w : World) (i1 : i ≤ 9223372036854775807) (ht : t.length ≤ 281474976710656) :
    Calls Tryd.prog 14 #[.int .i64 i, .agg #[.int .i64 k.A, .int .i64 k.X, .int .i64 k.Y, .int .i64 k.S, .int .i64 k.PC, .int .i64 k.N, .int .i64 k.V, .int .i64 k.D, .int .i64 k.I, .int .i64 k.Z, .int .i64 k.C], .string ⟨t.toArray⟩] w fun e w' => e = .returned (.string ⟨(rowT i k t).toArray⟩) ∧ Below w.heap.size w w' := by
  have hok := fun W => spec_KnowOk k W
  unfold rowT
  by_cases hi : i < 0
  · rw [if_pos (.inl hi)]
    have HB := hR w; go_enter Tryd.func14, Tryd.ntmps14
    go_wp2_with fail
    go_ret
    exact ⟨rfl, blw⟩
  cases hk : knOk k
  · rw [if_pos (.inr rfl)]
    rw [hk] at hok
    have HB := hR w; go_enter Tryd.func14, Tryd.ntmps14
    go_wp2_with fail
    refine (hok _).mono ?_
    rintro _ w1 ⟨rfl, hb⟩
    (have HB := Aside0.mk (below_step (w := w) blw hb); have hz1 := hb.size; obtain ⟨hcl1, hfr1, hlt1, _⟩ := bcell hb; (try simp only [sA, sC, sD] at hz1); (try simp only [sA, sC, sD] at hcl1 hfr1 hlt1); have hk1_0 : w.heap.size < w1.heap.size := (by omega); have HB1 := hR w1; clear hb)
    go_wp2_with fail
    go_ret
    exact ⟨rfl, blw⟩
  rw [if_neg (by rintro (h | h) <;> first | omega | cases h)]
  rw [hk] at hok
  have hdt := fun W => spec_DecText i.toNat W (by omega)
  have hkt := fun W => spec_KnowText k W
  have qk := knT_len hk
  have qd := itoa_len i (by omega) i1
  have qt := ba_size t
  rw [show ((i.toNat : Nat) : Int) = i by omega] at hdt
  have hi0 : 0 ≤ i := by omega
  generalize hX : Lib.itoa i = X at *
  generalize hY : knT k = Y at *
  have s1 : (9223372036854775807 < X.length + 1) = False := eq_false (by omega)
  have s2 : (9223372036854775807 < X.length + 1 + 34) = False := eq_false (by omega)
  have s3 : (9223372036854775807 < X.length + 1 + 34 + 1) = False := eq_false (by omega)
  have s4 : (9223372036854775807 < X.length + 1 + 34 + 1 + t.length) = False := eq_false (by omega)
  have HB := hR w; go_enter Tryd.func14, Tryd.ntmps14
  go_wp2_with fail
  refine (hok _).mono ?_
  rintro _ w1 ⟨rfl, hb⟩
  (have HB := Aside0.mk (below_step (w := w) blw hb); have hz1 := hb.size; obtain ⟨hcl1, hfr1, hlt1, _⟩ := bcell hb; (try simp only [sA, sC, sD] at hz1); (try simp only [sA, sC, sD] at hcl1 hfr1 hlt1); have hk1_0 : w.heap.size < w1.heap.size := (by omega); have HB1 := hR w1; clear hb)
  go_wp2_with fail
  go_region_held3 (fun w' => w'.cell? ⟨w.heap.size, 0, none⟩ = some (.int .i64 k.A) ∧ w'.cell? ⟨w.heap.size, 1, none⟩ = some (.int .i64 k.X) ∧ w'.cell? ⟨w.heap.size, 2, none⟩ = some (.int .i64 k.Y) ∧ w'.cell? ⟨w.heap.size, 3, none⟩ = some (.int .i64 k.S) ∧ w'.cell? ⟨w.heap.size, 4, none⟩ = some (.int .i64 k.PC) ∧ w'.cell? ⟨w.heap.size, 5, none⟩ = some (.int .i64 k.N) ∧ w'.cell? ⟨w.heap.size, 6, none⟩ = some (.int .i64 k.V) ∧ w'.cell? ⟨w.heap.size, 7, none⟩ = some (.int .i64 k.D) ∧ w'.cell? ⟨w.heap.size, 8, none⟩ = some (.int .i64 k.I) ∧ w'.cell? ⟨w.heap.size, 9, none⟩ = some (.int .i64 k.Z) ∧ w'.cell? ⟨w.heap.size, 10, none⟩ = some (.int .i64 k.C)) (first | (go_keep; done) | (go_split_ands; (repeat' apply And.intro) <;> (first | (with_reducible assumption) | (go_simp; done) | (exact cell_keep blw (by assumption)) | exact blw))) (first | (go_at_call 40; ((with_reducible refine (hdt _).mono ?_); rintro _ w2 ⟨rfl, hb⟩; have HB := Aside0.mk (below_step (w := w) blw hb); have hz2 := hb.size; obtain ⟨hcl2, hfr2, hlt2, _⟩ := bcell hb; (try simp only [sA, sC, sD] at hz2); (try simp only [sA, sC, sD] at hcl2 hfr2 hlt2); have hk2_0 : w.heap.size < w2.heap.size := (by omega); have HB2 := hR w2; clear hb)) | (go_at_call 41; ((with_reducible refine (hkt _).mono ?_); rintro _ w3 ⟨rfl, hb⟩; have HB := Aside0.mk (below_step (w := w) blw hb); have hz3 := hb.size; obtain ⟨hcl3, hfr3, hlt3, _⟩ := bcell hb; (try simp only [sA, sC, sD] at hz3); (try simp only [sA, sC, sD] at hcl3 hfr3 hlt3); have hk3_0 : w.heap.size < w3.heap.size := (by omega); have HB3 := hR w3; clear hb)))
  go_wp2_with fail
  go_ret
  exact ⟨ret_of (congrArg Value.string (by apply ByteArray.ext; simp)), blw⟩
end Go.Proofs.YthlmddcjbhacmaaDoor
