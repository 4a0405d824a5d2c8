/- The text of what is known, by the program. -/
import Derived.Test.YthlmddcjbhacmaaDoorKnowP
import Derived.Test.YthlmddcjbhacmaaDoorHex
import Derived.Test.YthlmddcjbhacmaaDoorShelf
set_option linter.unusedVariables false
set_option linter.unusedSimpArgs false
namespace Go.Proofs.YthlmddcjbhacmaaDoor
open Go.RowKit Go.Proofs.YthlmddcjbhacmaaDoorW.PrintWords
theorem repeat_one (b : UInt8) (d : Nat) : Lib.repeatL [b] d = List.replicate d b := by
  induction d with
  | zero => rfl
  | succ d ih => rw [Lib.repeatL, ih]; rfl
theorem impl_digits2 (n : Int) (w : World) (h0 : -1 ≤ n) (h1 : n < 65536) :
    Calls Tryd.prog 70 #[.int .i64 n, .int .i64 2] w fun e w' => e = .returned (.string ⟨(digs n 2).toArray⟩) ∧ Below w.heap.size w w' := by
  unfold digs
  by_cases h : n < 0
  · rw [if_pos h]
    have hr := fun W => Tryd.strings_Repeat ⟨#[63]⟩ 2 W (by decide) (by decide)
    rw [show (⟨#[63]⟩ : ByteArray).data.toList = [63] from rfl, repeat_one] at hr
    have HB := hR w; go_enter Tryd.func70, Tryd.ntmps70
    go_wp2_with fail
    refine Calls.mono (hr _) ?_
    rintro _ w1 ⟨rfl, hb⟩
    (have HB := Aside0.mk (below_step (w := w) blw hb); have hz1 := hb.size; obtain ⟨hcl1, hfr1, hlt1, _⟩ := bcell hb; (try simp only [sA, sC, sD] at hz1); (try simp only [sA, sC, sD] at hcl1 hfr1 hlt1); have HB1 := hR w1; clear hb)
    go_wp2_with fail
    go_ret
    exact ⟨rfl, blw⟩
  · rw [if_neg h]
    have HB := hR w; go_enter Tryd.func70, Tryd.ntmps70
    go_wp2_with fail
    refine (impl_Hex2 n _ (by omega) (by omega)).mono ?_
    rintro _ w1 ⟨rfl, hb⟩
    (have HB := Aside0.mk (below_step (w := w) blw hb); have hz1 := hb.size; obtain ⟨hcl1, hfr1, hlt1, _⟩ := bcell hb; (try simp only [sA, sC, sD] at hz1); (try simp only [sA, sC, sD] at hcl1 hfr1 hlt1); have HB1 := hR w1; clear hb)
    go_wp2_with fail
    go_ret
    exact ⟨rfl, blw⟩
theorem impl_digits4 (n : Int) (w : World) (h0 : -1 ≤ n) (h1 : n < 65536) :
    Calls Tryd.prog 70 #[.int .i64 n, .int .i64 4] w fun e w' => e = .returned (.string ⟨(digs n 4).toArray⟩) ∧ Below w.heap.size w w' := by
  unfold digs
  by_cases h : n < 0
  · rw [if_pos h]
    have hr := fun W => Tryd.strings_Repeat ⟨#[63]⟩ 4 W (by decide) (by decide)
    rw [show (⟨#[63]⟩ : ByteArray).data.toList = [63] from rfl, repeat_one] at hr
    have HB := hR w; go_enter Tryd.func70, Tryd.ntmps70
    go_wp2_with fail
    refine Calls.mono (hr _) ?_
    rintro _ w1 ⟨rfl, hb⟩
    (have HB := Aside0.mk (below_step (w := w) blw hb); have hz1 := hb.size; obtain ⟨hcl1, hfr1, hlt1, _⟩ := bcell hb; (try simp only [sA, sC, sD] at hz1); (try simp only [sA, sC, sD] at hcl1 hfr1 hlt1); have HB1 := hR w1; clear hb)
    go_wp2_with fail
    go_ret
    exact ⟨rfl, blw⟩
  · rw [if_neg h]
    have HB := hR w; go_enter Tryd.func70, Tryd.ntmps70
    go_wp2_with fail
    refine (impl_Hex4 n _ (by omega) (by omega)).mono ?_
    rintro _ w1 ⟨rfl, hb⟩
    (have HB := Aside0.mk (below_step (w := w) blw hb); have hz1 := hb.size; obtain ⟨hcl1, hfr1, hlt1, _⟩ := bcell hb; (try simp only [sA, sC, sD] at hz1); (try simp only [sA, sC, sD] at hcl1 hfr1 hlt1); have HB1 := hR w1; clear hb)
    go_wp2_with fail
    go_ret
    exact ⟨rfl, blw⟩
theorem knPre_eq (a x y s p : Int) : (⟨#[65, 61]⟩ : ByteArray) ++ ⟨(digs a 2).toArray⟩ ++ ⟨#[32, 88, 61]⟩ ++ ⟨(digs x 2).toArray⟩ ++ ⟨#[32, 89, 61]⟩ ++ ⟨(digs y 2).toArray⟩ ++ ⟨#[32, 83, 61]⟩ ++ ⟨(digs s 2).toArray⟩ ++ ⟨#[32, 80, 67, 61]⟩ ++ ⟨(digs p 4).toArray⟩ ++ ⟨#[32]⟩ = ⟨(knPre a x y s p).toArray⟩ := by
  apply ByteArray.ext
  simp [knPre]
theorem knOk_b {k : Kn} (h : knOk k = true) : (-1 ≤ k.A ∧ k.A < 65536) ∧ (-1 ≤ k.X ∧ k.X < 65536) ∧ (-1 ≤ k.Y ∧ k.Y < 65536) ∧ (-1 ≤ k.S ∧ k.S < 65536) ∧ (-1 ≤ k.PC ∧ k.PC < 65536) := by
  simp only [knOk, inR, Bool.and_eq_true, decide_eq_true_eq] at h
  omega
def flK (k : Kn) (j : Nat) : Int := [k.N, k.V, k.D, k.I, k.Z, k.C].getD j 0
/-- The flags of a Know that lies in block g. -/
def FlC (w : World) (g : Nat) (k : Kn) : Prop := w.cell? ⟨g, 5, none⟩ = some (.int .i64 k.N) ∧ w.cell? ⟨g, 6, none⟩ = some (.int .i64 k.V) ∧ w.cell? ⟨g, 7, none⟩ = some (.int .i64 k.D) ∧ w.cell? ⟨g, 8, none⟩ = some (.int .i64 k.I) ∧ w.cell? ⟨g, 9, none⟩ = some (.int .i64 k.Z) ∧ w.cell? ⟨g, 10, none⟩ = some (.int .i64 k.C)
theorem FlC.below {w w' : World} {g : Nat} {k : Kn} (h : FlC w g k) (hb : Below w.heap.size w w') : FlC w' g k :=
  ⟨cell_keep hb h.1, cell_keep hb h.2.1, cell_keep hb h.2.2.1, cell_keep hb h.2.2.2.1, cell_keep hb h.2.2.2.2.1, cell_keep hb h.2.2.2.2.2⟩
theorem FlC.at {w : World} {g : Nat} {k : Kn} (h : FlC w g k) (j : Nat) (hj : j < 6) : w.cell? ⟨g, 5 + j, none⟩ = some (.int .i64 (flK k j)) := by
  obtain ⟨h0, h1, h2, h3, h4, h5⟩ := h
  have : j = 0 ∨ j = 1 ∨ j = 2 ∨ j = 3 ∨ j = 4 ∨ j = 5 := by omega
  rcases this with rfl | rfl | rfl | rfl | rfl | rfl <;> assumption
theorem knFl_step (k : Kn) (j : Nat) (hj : j < 6) : (knFl k).take (j + 1) = (knFl k).take j ++ [flg (flK k j) (fltr.getD j 0)] := by
  have : j = 0 ∨ j = 1 ∨ j = 2 ∨ j = 3 ∨ j = 4 ∨ j = 5 := by omega
  rcases this with rfl | rfl | rfl | rfl | rfl | rfl <;> rfl
theorem flK_b {k : Kn} (h : knOk k = true) (j : Nat) (hj : j < 6) : -1 ≤ flK k j ∧ flK k j ≤ 1 := by
  simp only [knOk, inR, Bool.and_eq_true, decide_eq_true_eq] at h
  have : j = 0 ∨ j = 1 ∨ j = 2 ∨ j = 3 ∨ j = 4 ∨ j = 5 := by omega
  rcases this with rfl | rfl | rfl | rfl | rfl | rfl <;> simp only [flK, List.getD_cons_zero, List.getD_cons_succ] <;> omega
theorem fl_cut (k : Nat) (h : k < 6) : (⟨#[78, 86, 68, 73, 90, 67]⟩ : ByteArray).extract k (k + 1) = ⟨#[fltr.getD k 0]⟩ := by
  have : ∀ k : Fin 6, ((⟨#[78, 86, 68, 73, 90, 67]⟩ : ByteArray).extract k.val (k.val + 1)).data = #[fltr.getD k.val 0] := by decide +kernel
  have := this ⟨k, h⟩
  cases hx : (⟨#[78, 86, 68, 73, 90, 67]⟩ : ByteArray).extract k (k + 1) with
  | mk d => rw [hx] at this; exact congrArg ByteArray.mk this
set_option maxRecDepth 100000 in
theorem impl_KnowText (k : Kn) (w : World) :
    Calls Tryd.prog 39 #[.agg #[.int .i64 k.A, .int .i64 k.X, .int .i64 k.Y, .int .i64 k.S, .int .i64 k.PC, .int .i64 k.N, .int .i64 k.V, .int .i64 k.D, .int .i64 k.I, .int .i64 k.Z, .int .i64 k.C]] w fun e w' => e = .returned (.string ⟨(knT k).toArray⟩) ∧ Below w.heap.size w w' := by
  have hok := fun W => impl_KnowOk k W
  unfold knT
  cases hk : knOk k
  · rw [if_neg (by decide)]
    rw [hk] at hok
    have HB := hR w; go_enter Tryd.func39, Tryd.ntmps39
    go_wp2_with fail
    refine (hok _).mono ?_
    rintro _ w1 ⟨rfl, hb⟩
    (have HB := Aside0.mk (below_step (w := w) blw hb); have hz1 := hb.size; obtain ⟨hcl1, hfr1, hlt1, _⟩ := bcell hb; (try simp only [sA, sC, sD] at hz1); (try simp only [sA, sC, sD] at hcl1 hfr1 hlt1); have hk1_0 : w.heap.size < w1.heap.size := (by omega); have HB1 := hR w1; clear hb)
    go_wp2_with fail
    go_ret
    exact ⟨rfl, blw⟩
  rw [if_pos rfl]
  rw [hk] at hok
  obtain ⟨nA, nX, nY, nS, nP⟩ := knOk_b hk
  have dA := fun W => impl_digits2 k.A W nA.1 nA.2
  have dX := fun W => impl_digits2 k.X W nX.1 nX.2
  have dY := fun W => impl_digits2 k.Y W nY.1 nY.2
  have dS := fun W => impl_digits2 k.S W nS.1 nS.2
  have dP := fun W => impl_digits4 k.PC W nP.1 nP.2
  have qA := digs_len k.A 2
  have qX := digs_len k.X 2
  have qY := digs_len k.Y 2
  have qS := digs_len k.S 2
  have qP := digs_len k.PC 4
  have HB := hR w; go_enter Tryd.func39, Tryd.ntmps39
  go_wp2_with fail
  refine (hok _).mono ?_
  rintro _ w1 ⟨rfl, hb⟩
  (have HB := Aside0.mk (below_step (w := w) blw hb); have hz1 := hb.size; obtain ⟨hcl1, hfr1, hlt1, _⟩ := bcell hb; (try simp only [sA, sC, sD] at hz1); (try simp only [sA, sC, sD] at hcl1 hfr1 hlt1); have hk1_0 : w.heap.size < w1.heap.size := (by omega); have HB1 := hR w1; clear hb)
  go_upto_region 3 with (fail)
  go_region_held3 (fun w' => w'.cell? ⟨w.heap.size, 0, none⟩ = some (.int .i64 k.A) ∧ w'.cell? ⟨w.heap.size, 1, none⟩ = some (.int .i64 k.X) ∧ w'.cell? ⟨w.heap.size, 2, none⟩ = some (.int .i64 k.Y) ∧ w'.cell? ⟨w.heap.size, 3, none⟩ = some (.int .i64 k.S) ∧ w'.cell? ⟨w.heap.size, 4, none⟩ = some (.int .i64 k.PC) ∧ w'.cell? ⟨w.heap.size, 5, none⟩ = some (.int .i64 k.N) ∧ w'.cell? ⟨w.heap.size, 6, none⟩ = some (.int .i64 k.V) ∧ w'.cell? ⟨w.heap.size, 7, none⟩ = some (.int .i64 k.D) ∧ w'.cell? ⟨w.heap.size, 8, none⟩ = some (.int .i64 k.I) ∧ w'.cell? ⟨w.heap.size, 9, none⟩ = some (.int .i64 k.Z) ∧ w'.cell? ⟨w.heap.size, 10, none⟩ = some (.int .i64 k.C)) (first | (go_keep; done) | (go_split_ands; (repeat' apply And.intro) <;> (first | (with_reducible assumption) | (go_simp; done) | (exact cell_keep blw (by assumption)) | exact blw))) (first | (go_at_call 70; ((with_reducible refine (dA _).mono ?_); rintro _ w2 ⟨rfl, hb⟩; have HB := Aside0.mk (below_step (w := w) blw hb); have hz2 := hb.size; obtain ⟨hcl2, hfr2, hlt2, _⟩ := bcell hb; (try simp only [sA, sC, sD] at hz2); (try simp only [sA, sC, sD] at hcl2 hfr2 hlt2); have hk2_0 : w.heap.size < w2.heap.size := (by omega); have HB2 := hR w2; clear hb)) | (go_at_call 70; ((with_reducible refine (dX _).mono ?_); rintro _ w3 ⟨rfl, hb⟩; have HB := Aside0.mk (below_step (w := w) blw hb); have hz3 := hb.size; obtain ⟨hcl3, hfr3, hlt3, _⟩ := bcell hb; (try simp only [sA, sC, sD] at hz3); (try simp only [sA, sC, sD] at hcl3 hfr3 hlt3); have hk3_0 : w.heap.size < w3.heap.size := (by omega); have HB3 := hR w3; clear hb)) | (go_at_call 70; ((with_reducible refine (dY _).mono ?_); rintro _ w4 ⟨rfl, hb⟩; have HB := Aside0.mk (below_step (w := w) blw hb); have hz4 := hb.size; obtain ⟨hcl4, hfr4, hlt4, _⟩ := bcell hb; (try simp only [sA, sC, sD] at hz4); (try simp only [sA, sC, sD] at hcl4 hfr4 hlt4); have hk4_0 : w.heap.size < w4.heap.size := (by omega); have HB4 := hR w4; clear hb)) | (go_at_call 70; ((with_reducible refine (dS _).mono ?_); rintro _ w5 ⟨rfl, hb⟩; have HB := Aside0.mk (below_step (w := w) blw hb); have hz5 := hb.size; obtain ⟨hcl5, hfr5, hlt5, _⟩ := bcell hb; (try simp only [sA, sC, sD] at hz5); (try simp only [sA, sC, sD] at hcl5 hfr5 hlt5); have hk5_0 : w.heap.size < w5.heap.size := (by omega); have HB5 := hR w5; clear hb)) | (go_at_call 70; ((with_reducible refine (dP _).mono ?_); rintro _ w6 ⟨rfl, hb⟩; have HB := Aside0.mk (below_step (w := w) blw hb); have hz6 := hb.size; obtain ⟨hcl6, hfr6, hlt6, _⟩ := bcell hb; (try simp only [sA, sC, sD] at hz6); (try simp only [sA, sC, sD] at hcl6 hfr6 hlt6); have hk6_0 : w.heap.size < w6.heap.size := (by omega); have HB6 := hR w6; clear hb)))
  go_wp2_with fail
  rw [knPre_eq]
  have FC := Aside0.mk (show FlC w6 w.heap.size k from ⟨by go_simp, by go_simp, by go_simp, by go_simp, by go_simp, by go_simp⟩)
  refine Calls.mono (impl_fields _ _ (by omega)) ?_
  rintro _ w7 ⟨rfl, hb⟩
  replace FC := Aside0.mk (FC.out.below hb)
  (have HB := Aside0.mk (below_step (w := w) blw hb); have hz7 := hb.size; obtain ⟨hcl7, hfr7, hlt7, _⟩ := bcell hb; (try simp only [sA, sC, sD] at hz7); (try simp only [sA, sC, sD] at hcl7 hfr7 hlt7); have hk7_0 : w.heap.size < w7.heap.size := (by omega); have HB7 := hR w7; clear hb)
  unfold ptrs
  go_wp2_with fail
  have hb : Below w7.heap.size w7 (w7.alloc (.cells #[.pointer (some ⟨w.heap.size, 0, none⟩), .pointer (some ⟨w.heap.size, 1, none⟩), .pointer (some ⟨w.heap.size, 2, none⟩), .pointer (some ⟨w.heap.size, 3, none⟩), .pointer (some ⟨w.heap.size, 4, none⟩), .pointer (some ⟨w.heap.size, 5, none⟩), .pointer (some ⟨w.heap.size, 6, none⟩), .pointer (some ⟨w.heap.size, 7, none⟩), .pointer (some ⟨w.heap.size, 8, none⟩), .pointer (some ⟨w.heap.size, 9, none⟩), .pointer (some ⟨w.heap.size, 10, none⟩)] 94)) := blw
  have PB := Aside0.mk (Blk.at (w := w7) (g := w7.heap.size) (cs := #[.pointer (some ⟨w.heap.size, 0, none⟩), .pointer (some ⟨w.heap.size, 1, none⟩), .pointer (some ⟨w.heap.size, 2, none⟩), .pointer (some ⟨w.heap.size, 3, none⟩), .pointer (some ⟨w.heap.size, 4, none⟩), .pointer (some ⟨w.heap.size, 5, none⟩), .pointer (some ⟨w.heap.size, 6, none⟩), .pointer (some ⟨w.heap.size, 7, none⟩), .pointer (some ⟨w.heap.size, 8, none⟩), .pointer (some ⟨w.heap.size, 9, none⟩), .pointer (some ⟨w.heap.size, 10, none⟩)]) (t := 94) rfl)
  replace FC := Aside0.mk (FC.out.below hb)
  have hs8 : w7.heap.size < (w7.alloc (.cells #[.pointer (some ⟨w.heap.size, 0, none⟩), .pointer (some ⟨w.heap.size, 1, none⟩), .pointer (some ⟨w.heap.size, 2, none⟩), .pointer (some ⟨w.heap.size, 3, none⟩), .pointer (some ⟨w.heap.size, 4, none⟩), .pointer (some ⟨w.heap.size, 5, none⟩), .pointer (some ⟨w.heap.size, 6, none⟩), .pointer (some ⟨w.heap.size, 7, none⟩), .pointer (some ⟨w.heap.size, 8, none⟩), .pointer (some ⟨w.heap.size, 9, none⟩), .pointer (some ⟨w.heap.size, 10, none⟩)] 94)).heap.size := by rw [sA]; omega
  generalize w7.alloc (.cells #[.pointer (some ⟨w.heap.size, 0, none⟩), .pointer (some ⟨w.heap.size, 1, none⟩), .pointer (some ⟨w.heap.size, 2, none⟩), .pointer (some ⟨w.heap.size, 3, none⟩), .pointer (some ⟨w.heap.size, 4, none⟩), .pointer (some ⟨w.heap.size, 5, none⟩), .pointer (some ⟨w.heap.size, 6, none⟩), .pointer (some ⟨w.heap.size, 7, none⟩), .pointer (some ⟨w.heap.size, 8, none⟩), .pointer (some ⟨w.heap.size, 9, none⟩), .pointer (some ⟨w.heap.size, 10, none⟩)] 94) = w8 at *
  (have HB := Aside0.mk (below_step (w := w) blw hb); have hz8 := hb.size; obtain ⟨hcl8, hfr8, hlt8, _⟩ := bcell hb; (try simp only [sA, sC, sD] at hz8); (try simp only [sA, sC, sD] at hcl8 hfr8 hlt8); have hk8_0 : w.heap.size < w8.heap.size := (by omega); have HB8 := hR w8; clear hb)
  generalize w7.heap.size = gp at *
  go_loopw [3, 5, 6, 38] (fun v3 v5 v6 v38 wr => ∃ j : Nat, ∃ T : List UInt8, j ≤ 6 ∧ v38 = .int .i64 j ∧ v3 = .string ⟨T.toArray⟩ ∧ T.length = 28 + j ∧ Aside0 (T = knPre k.A k.X k.Y k.S k.PC ++ (knFl k).take j) ∧ Aside0 (FlC wr w.heap.size k) ∧ Aside0 (Blk wr gp #[.pointer (some ⟨w.heap.size, 0, none⟩), .pointer (some ⟨w.heap.size, 1, none⟩), .pointer (some ⟨w.heap.size, 2, none⟩), .pointer (some ⟨w.heap.size, 3, none⟩), .pointer (some ⟨w.heap.size, 4, none⟩), .pointer (some ⟨w.heap.size, 5, none⟩), .pointer (some ⟨w.heap.size, 6, none⟩), .pointer (some ⟨w.heap.size, 7, none⟩), .pointer (some ⟨w.heap.size, 8, none⟩), .pointer (some ⟨w.heap.size, 9, none⟩), .pointer (some ⟨w.heap.size, 10, none⟩)] 94) ∧ Aside0 (Below w.heap.size w wr)) (fun _ _ _ v38 _ => 6 - (intOf v38).toNat)
  case atStart => exact ⟨0, _, by omega, rfl, rfl, knPre_len _ _ _ _ _, ⟨by simp⟩, FC, PB, HB⟩
  case round =>
    obtain ⟨j, T, hj, rfl, rfl, hT, ET, FC, PB, HB⟩ := hrel
    by_cases hlt : j < 6
    · have hx := FC.out.at j hlt
      have hp := PB.out.cell (5 + j)
      rw [show (#[.pointer (some ⟨w.heap.size, 0, none⟩), .pointer (some ⟨w.heap.size, 1, none⟩), .pointer (some ⟨w.heap.size, 2, none⟩), .pointer (some ⟨w.heap.size, 3, none⟩), .pointer (some ⟨w.heap.size, 4, none⟩), .pointer (some ⟨w.heap.size, 5, none⟩), .pointer (some ⟨w.heap.size, 6, none⟩), .pointer (some ⟨w.heap.size, 7, none⟩), .pointer (some ⟨w.heap.size, 8, none⟩), .pointer (some ⟨w.heap.size, 9, none⟩), .pointer (some ⟨w.heap.size, 10, none⟩)] : Array Value)[5 + j]? = some (.pointer (some ⟨w.heap.size, 5 + j, none⟩)) from by
        have : j = 0 ∨ j = 1 ∨ j = 2 ∨ j = 3 ∨ j = 4 ∨ j = 5 := by omega
        rcases this with rfl | rfl | rfl | rfl | rfl | rfl <;> rfl] at hp
      have hb := flK_b hk j hlt
      have hst := knFl_step k j hlt
      obtain ⟨x, ex⟩ : ∃ x, flK k j = x := ⟨_, rfl⟩
      rw [ex] at hx hb hst
      have HS := Aside0.mk hst
      clear ex hst
      have hx3 : x = -1 ∨ x = 0 ∨ x = 1 := by omega
      rcases hx3 with rfl | rfl | rfl
      · go_wp2_with fail
        exact ⟨⟨j + 1, T ++ [63], by omega, by go_num, congrArg Value.string (ba_app _ [63]), by simp [hT]; omega, ⟨by rw [ET.out, HS.out, List.append_assoc]; rfl⟩, FC, PB, HB⟩, by simp [intOf]; omega⟩
      · go_wp2_with fail
        exact ⟨⟨j + 1, T ++ [45], by omega, by go_num, congrArg Value.string (ba_app _ [45]), by simp [hT]; omega, ⟨by rw [ET.out, HS.out, List.append_assoc]; rfl⟩, FC, PB, HB⟩, by simp [intOf]; omega⟩
      · go_wp2_with fail
        exact ⟨⟨j + 1, T ++ [fltr.getD j 0], by omega, by go_num, congrArg Value.string (by rw [fl_cut _ hlt]; exact ba_app _ [_]), by simp [hT]; omega, ⟨by rw [ET.out, HS.out, List.append_assoc]; rfl⟩, FC, PB, HB⟩, by simp [intOf]; omega⟩
    · go_wp2_with fail
      go_ret
      obtain rfl : j = 6 := by omega
      have e := ET.out
      rw [List.take_of_length_le (by show 6 ≤ 6; omega)] at e
      exact ⟨ret_of (congrArg (fun x : List UInt8 => Value.string ⟨x.toArray⟩) e), blw⟩
end Go.Proofs.YthlmddcjbhacmaaDoor
