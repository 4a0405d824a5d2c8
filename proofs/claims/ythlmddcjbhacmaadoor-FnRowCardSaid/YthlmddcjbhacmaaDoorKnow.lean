/- What is known of a processor, by the program: its parts, whether it is right. -/
import Derived.Test.YthlmddcjbhacmaaDoorTxt
import Derived.Test.YthlmddcjbhacmaaDoorSiz
import Derived.Test.YthlmddcjbhacmaaDoorBlk
import Derived.Deep.RegionHeld3
import Derived.BigRegion
set_option linter.unusedVariables false
set_option linter.unusedSimpArgs false
namespace Go.Proofs.YthlmddcjbhacmaaDoor
open Go.RowKit Go.Proofs.YthlmddcjbhacmaaDoorW.PrintWords
/-- The places of the parts of a Know that lies in block g. -/
def ptrs (g : Nat) : Value := .agg #[.pointer (some ⟨g, 0, none⟩), .pointer (some ⟨g, 1, none⟩), .pointer (some ⟨g, 2, none⟩), .pointer (some ⟨g, 3, none⟩), .pointer (some ⟨g, 4, none⟩), .pointer (some ⟨g, 5, none⟩), .pointer (some ⟨g, 6, none⟩), .pointer (some ⟨g, 7, none⟩), .pointer (some ⟨g, 8, none⟩), .pointer (some ⟨g, 9, none⟩), .pointer (some ⟨g, 10, none⟩)]
def Kn.l (k : Kn) : List Int := [k.A, k.X, k.Y, k.S, k.PC, k.N, k.V, k.D, k.I, k.Z, k.C]
set_option maxRecDepth 20000 in
theorem impl_fields (g : Nat) (w : World) (hg : g < w.heap.size) :
    Calls Tryd.prog 67 #[.pointer (some ⟨g, 0, none⟩)] w fun e w' => e = .returned (ptrs g) ∧ Below w.heap.size w w' := by
  have HB := hR w; go_enter Tryd.func67, Tryd.ntmps67
  go_wp2_with fail
  go_region
  go_wp2_with fail
  (refine bodyPost_ret (v := ptrs g) (by (simp only [results, Tryd.results67]; go_simp <;> (rfl))) rfl ?_)
  exact ⟨rfl, blw⟩
def bitsK (i : Nat) : Int := if i < 4 then 8 else if i = 4 then 16 else 1
theorem impl_bitsOf (i : Nat) (w : World) :
    Calls Tryd.prog 68 #[.int .i64 i] w fun e w' => e = .returned (.int .i64 (bitsK i)) ∧ w = w' := by
  unfold bitsK
  by_cases h : i < 4
  · have h' : (i : Int) < 4 := by omega
    rw [if_pos h]
    have HB := hR w; go_enter Tryd.func68, Tryd.ntmps68
    go_wp2
    go_ret
    exact ⟨rfl, rfl⟩
  · have h' : ¬ (i : Int) < 4 := by omega
    rw [if_neg h]
    by_cases h4 : i = 4
    · subst h4
      have HB := hR w; go_enter Tryd.func68, Tryd.ntmps68
      go_wp2
      go_ret
      exact ⟨rfl, rfl⟩
    · have h4' : ¬ (i : Int) = 4 := by omega
      rw [if_neg h4]
      have HB := hR w; go_enter Tryd.func68, Tryd.ntmps68
      go_wp2
      go_ret
      exact ⟨rfl, rfl⟩
theorem ptr_at (g k : Nat) (hk : k < 11) (w : World) : (Instr.index 94 (ptrs g) (.int .i64 k)).run Tryd.prog w = .ok (.pointer (some ⟨g, k, none⟩)) w := by
  have : k = 0 ∨ k = 1 ∨ k = 2 ∨ k = 3 ∨ k = 4 ∨ k = 5 ∨ k = 6 ∨ k = 7 ∨ k = 8 ∨ k = 9 ∨ k = 10 := by omega
  rcases this with rfl | rfl | rfl | rfl | rfl | rfl | rfl | rfl | rfl | rfl | rfl
  · exact (show (Instr.index 94 (ptrs g) (.int .i64 0)).run Tryd.prog w = .ok (.pointer (some ⟨g, 0, none⟩)) w by kernel_rfl)
  · exact (show (Instr.index 94 (ptrs g) (.int .i64 1)).run Tryd.prog w = .ok (.pointer (some ⟨g, 1, none⟩)) w by kernel_rfl)
  · exact (show (Instr.index 94 (ptrs g) (.int .i64 2)).run Tryd.prog w = .ok (.pointer (some ⟨g, 2, none⟩)) w by kernel_rfl)
  · exact (show (Instr.index 94 (ptrs g) (.int .i64 3)).run Tryd.prog w = .ok (.pointer (some ⟨g, 3, none⟩)) w by kernel_rfl)
  · exact (show (Instr.index 94 (ptrs g) (.int .i64 4)).run Tryd.prog w = .ok (.pointer (some ⟨g, 4, none⟩)) w by kernel_rfl)
  · exact (show (Instr.index 94 (ptrs g) (.int .i64 5)).run Tryd.prog w = .ok (.pointer (some ⟨g, 5, none⟩)) w by kernel_rfl)
  · exact (show (Instr.index 94 (ptrs g) (.int .i64 6)).run Tryd.prog w = .ok (.pointer (some ⟨g, 6, none⟩)) w by kernel_rfl)
  · exact (show (Instr.index 94 (ptrs g) (.int .i64 7)).run Tryd.prog w = .ok (.pointer (some ⟨g, 7, none⟩)) w by kernel_rfl)
  · exact (show (Instr.index 94 (ptrs g) (.int .i64 8)).run Tryd.prog w = .ok (.pointer (some ⟨g, 8, none⟩)) w by kernel_rfl)
  · exact (show (Instr.index 94 (ptrs g) (.int .i64 9)).run Tryd.prog w = .ok (.pointer (some ⟨g, 9, none⟩)) w by kernel_rfl)
  · exact (show (Instr.index 94 (ptrs g) (.int .i64 10)).run Tryd.prog w = .ok (.pointer (some ⟨g, 10, none⟩)) w by kernel_rfl)
theorem Kn.cell {w : World} {g : Nat} {k : Kn} {t : TypeId} (h : Blk w g #[.int .i64 k.A, .int .i64 k.X, .int .i64 k.Y, .int .i64 k.S, .int .i64 k.PC, .int .i64 k.N, .int .i64 k.V, .int .i64 k.D, .int .i64 k.I, .int .i64 k.Z, .int .i64 k.C] t) (i : Nat) (hi : i < 11) : w.cell? ⟨g, i, none⟩ = some (.int .i64 (k.l.getD i 0)) := by
  rw [h.cell]
  have : i = 0 ∨ i = 1 ∨ i = 2 ∨ i = 3 ∨ i = 4 ∨ i = 5 ∨ i = 6 ∨ i = 7 ∨ i = 8 ∨ i = 9 ∨ i = 10 := by omega
  rcases this with rfl | rfl | rfl | rfl | rfl | rfl | rfl | rfl | rfl | rfl | rfl <;> rfl
def mostK (i : Nat) : Int := if i < 4 then 255 else if i = 4 then 65535 else 1
theorem knOk_iff (k : Kn) : knOk k = true ↔ ∀ i, i < 11 → inR (k.l.getD i 0) (mostK i) = true := by
  constructor
  · intro h i hi
    simp only [knOk, Bool.and_eq_true] at h
    have : i = 0 ∨ i = 1 ∨ i = 2 ∨ i = 3 ∨ i = 4 ∨ i = 5 ∨ i = 6 ∨ i = 7 ∨ i = 8 ∨ i = 9 ∨ i = 10 := by omega
    rcases this with rfl | rfl | rfl | rfl | rfl | rfl | rfl | rfl | rfl | rfl | rfl <;> simp only [Kn.l, mostK, List.getD_cons_zero, List.getD_cons_succ] <;> simp [h]
  · intro h
    simp only [knOk, Bool.and_eq_true]
    exact ⟨⟨⟨⟨⟨⟨⟨⟨⟨⟨h 0 (by decide), h 1 (by decide)⟩, h 2 (by decide)⟩, h 3 (by decide)⟩, h 4 (by decide)⟩, h 5 (by decide)⟩, h 6 (by decide)⟩, h 7 (by decide)⟩, h 8 (by decide)⟩, h 9 (by decide)⟩, h 10 (by decide)⟩
theorem knOk_no {k : Kn} {i : Nat} (hi : i < 11) (h : inR (k.l.getD i 0) (mostK i) = false) : knOk k = false := by
  cases e : knOk k with
  | false => rfl
  | true => rw [(knOk_iff k).1 e i hi] at h; cases h
theorem all_step {p : Nat → Prop} {j : Nat} (h : ∀ i, i < j → p i) (hj : p j) : ∀ i, i < j + 1 → p i := by
  intro i hi
  rcases Nat.lt_or_ge i j with h1 | h1
  · exact h i h1
  · obtain rfl : i = j := by omega
    exact hj
set_option maxRecDepth 20000 in
theorem impl_KnowOk (k : Kn) (w : World) :
    Calls Tryd.prog 37 #[.agg #[.int .i64 k.A, .int .i64 k.X, .int .i64 k.Y, .int .i64 k.S, .int .i64 k.PC, .int .i64 k.N, .int .i64 k.V, .int .i64 k.D, .int .i64 k.I, .int .i64 k.Z, .int .i64 k.C]] w fun e w' => e = .returned (.bool (knOk k)) ∧ Below w.heap.size w w' := by
  have HB := hR w; go_enter Tryd.func37, Tryd.ntmps37
  go_upto_region 1 with (fail)
  have hb : Below w.heap.size w (w.alloc (.cells #[.int .i64 k.A, .int .i64 k.X, .int .i64 k.Y, .int .i64 k.S, .int .i64 k.PC, .int .i64 k.N, .int .i64 k.V, .int .i64 k.D, .int .i64 k.I, .int .i64 k.Z, .int .i64 k.C] 32)) := blw
  have K := Aside0.mk (Blk.at (w := w) (g := w.heap.size) (cs := #[.int .i64 k.A, .int .i64 k.X, .int .i64 k.Y, .int .i64 k.S, .int .i64 k.PC, .int .i64 k.N, .int .i64 k.V, .int .i64 k.D, .int .i64 k.I, .int .i64 k.Z, .int .i64 k.C]) (t := 32) rfl)
  have hs : w.heap.size < (w.alloc (.cells #[.int .i64 k.A, .int .i64 k.X, .int .i64 k.Y, .int .i64 k.S, .int .i64 k.PC, .int .i64 k.N, .int .i64 k.V, .int .i64 k.D, .int .i64 k.I, .int .i64 k.Z, .int .i64 k.C] 32)).heap.size := by rw [sA]; omega
  generalize w.alloc (.cells #[.int .i64 k.A, .int .i64 k.X, .int .i64 k.Y, .int .i64 k.S, .int .i64 k.PC, .int .i64 k.N, .int .i64 k.V, .int .i64 k.D, .int .i64 k.I, .int .i64 k.Z, .int .i64 k.C] 32) = w1 at *
  (have HB := Aside0.mk (below_step (w := w) blw hb); have hz1 := hb.size; obtain ⟨hcl1, hfr1, hlt1, _⟩ := bcell hb; (try simp only [sA, sC, sD] at hz1); (try simp only [sA, sC, sD] at hcl1 hfr1 hlt1); have HB1 := hR w1; clear hb)
  go_wp2_with fail
  refine Calls.mono (impl_fields _ _ hs) ?_
  rintro _ w2 ⟨rfl, hb⟩
  have K := Aside0.mk (K.out.below hb)
  (have HB := Aside0.mk (below_step (w := w) blw hb); have hz2 := hb.size; obtain ⟨hcl2, hfr2, hlt2, _⟩ := bcell hb; (try simp only [sA, sC, sD] at hz2); (try simp only [sA, sC, sD] at hcl2 hfr2 hlt2); have HB2 := hR w2; clear hb)
  go_wp2_with fail
  go_loopw [3, 4, 6] (fun v3 v4 v6 wr => ∃ j : Nat, j ≤ 11 ∧ v6 = .int .i64 j ∧ Aside0 (∀ i, i < j → inR (k.l.getD i 0) (mostK i) = true) ∧ Aside0 (Blk wr w.heap.size #[.int .i64 k.A, .int .i64 k.X, .int .i64 k.Y, .int .i64 k.S, .int .i64 k.PC, .int .i64 k.N, .int .i64 k.V, .int .i64 k.D, .int .i64 k.I, .int .i64 k.Z, .int .i64 k.C] 32) ∧ Aside0 (Below w.heap.size w wr)) (fun _ _ v6 _ => 11 - (intOf v6).toNat)
  case atStart => exact ⟨0, by omega, rfl, ⟨fun i hi => by omega⟩, K, HB⟩
  case round =>
    obtain ⟨j, hj, rfl, HA, K, HB⟩ := hrel
    by_cases hlt : j < 11
    · have hx := Kn.cell K.out j hlt
      have hp := fun W => ptr_at w.heap.size j hlt W
      obtain ⟨x, ex⟩ : ∃ x, k.l.getD j 0 = x := ⟨_, rfl⟩
      rw [ex] at hx
      have hlw := K.out.lt
      have hbi := fun W => impl_bitsOf j W
      have hwi := fun W => impl_within x (-1) (mostK j) W
      rw [show (decide (-1 ≤ x) && decide (x ≤ mostK j)) = inR x (mostK j) from rfl] at hwi
      obtain ⟨b, eb⟩ : ∃ b, inR x (mostK j) = b := ⟨_, rfl⟩
      rw [eb] at hwi
      have s1 : IntKind.i64.wrap 256 = 256 := by decide
      have s2 : IntKind.i64.wrap 255 = 255 := by decide
      have s3 : IntKind.i64.wrap 65536 = 65536 := by decide
      have s4 : IntKind.i64.wrap 65535 = 65535 := by decide
      have s5 : IntKind.i64.wrap 2 = 2 := by decide
      have s6 : IntKind.i64.wrap 1 = 1 := by decide
      have hj3 : j < 4 ∨ j = 4 ∨ 4 < j := by omega
      have hj0 : (0 : Int) ≤ (j : Int) := by omega
      have hj1 : (j : Int) < 11 := by omega
      have EB := Aside0.mk (show inR (k.l.getD j 0) (mostK j) = b by rw [ex, eb])
      clear ex eb
      rcases hj3 with h4 | h4 | h4
      · rw [show mostK j = 255 from by simp [mostK, h4]] at hwi
        rw [show bitsK j = 8 from if_pos h4] at hbi
        (cases b); (rotate_left); (focus (go_wp2_with fail; go_region_held3 (fun w' => w'.cell? ⟨w.heap.size, j, none⟩ = some (.int .i64 x)) (first | (go_keep; done) | (go_split_ands; (repeat' apply And.intro) <;> (first | (with_reducible assumption) | (go_simp; done) | (exact cell_keep blw (by assumption)) | exact blw))) (first | (go_at_call 68; ((with_reducible refine (hbi _).mono ?_); rintro _ _ ⟨rfl, rfl⟩)) | (go_at_call 25; ((with_reducible refine (hwi _).mono ?_); rintro _ _ ⟨rfl, rfl⟩))); go_wp2_with fail; exact ⟨⟨j + 1, by omega, by go_num, ⟨all_step HA.out EB.out⟩, ⟨K.out.drew⟩, ⟨blw⟩⟩, by simp [intOf]; omega⟩)); (focus (go_wp2_with fail; go_region_held3 (fun w' => w'.cell? ⟨w.heap.size, j, none⟩ = some (.int .i64 x)) (first | (go_keep; done) | (go_split_ands; (repeat' apply And.intro) <;> (first | (with_reducible assumption) | (go_simp; done) | (exact cell_keep blw (by assumption)) | exact blw))) (first | (go_at_call 68; ((with_reducible refine (hbi _).mono ?_); rintro _ _ ⟨rfl, rfl⟩)) | (go_at_call 25; ((with_reducible refine (hwi _).mono ?_); rintro _ _ ⟨rfl, rfl⟩))); go_wp2_with fail; go_ret; exact ⟨ret_of (congrArg Value.bool (knOk_no hlt EB.out).symm), blw⟩))
      · rw [show mostK j = 65535 from by rw [h4]; rfl] at hwi
        rw [show bitsK j = 16 from by rw [h4]; rfl] at hbi
        clear h4
        (cases b); (rotate_left); (focus (go_wp2_with fail; go_region_held3 (fun w' => w'.cell? ⟨w.heap.size, j, none⟩ = some (.int .i64 x)) (first | (go_keep; done) | (go_split_ands; (repeat' apply And.intro) <;> (first | (with_reducible assumption) | (go_simp; done) | (exact cell_keep blw (by assumption)) | exact blw))) (first | (go_at_call 68; ((with_reducible refine (hbi _).mono ?_); rintro _ _ ⟨rfl, rfl⟩)) | (go_at_call 25; ((with_reducible refine (hwi _).mono ?_); rintro _ _ ⟨rfl, rfl⟩))); go_wp2_with fail; exact ⟨⟨j + 1, by omega, by go_num, ⟨all_step HA.out EB.out⟩, ⟨K.out.drew⟩, ⟨blw⟩⟩, by simp [intOf]; omega⟩)); (focus (go_wp2_with fail; go_region_held3 (fun w' => w'.cell? ⟨w.heap.size, j, none⟩ = some (.int .i64 x)) (first | (go_keep; done) | (go_split_ands; (repeat' apply And.intro) <;> (first | (with_reducible assumption) | (go_simp; done) | (exact cell_keep blw (by assumption)) | exact blw))) (first | (go_at_call 68; ((with_reducible refine (hbi _).mono ?_); rintro _ _ ⟨rfl, rfl⟩)) | (go_at_call 25; ((with_reducible refine (hwi _).mono ?_); rintro _ _ ⟨rfl, rfl⟩))); go_wp2_with fail; go_ret; exact ⟨ret_of (congrArg Value.bool (knOk_no hlt EB.out).symm), blw⟩))
      · rw [show mostK j = 1 from by unfold mostK; rw [if_neg (by omega), if_neg (by omega)]] at hwi
        rw [show bitsK j = 1 from by unfold bitsK; rw [if_neg (by omega), if_neg (by omega)]] at hbi
        (cases b); (rotate_left); (focus (go_wp2_with fail; go_region_held3 (fun w' => w'.cell? ⟨w.heap.size, j, none⟩ = some (.int .i64 x)) (first | (go_keep; done) | (go_split_ands; (repeat' apply And.intro) <;> (first | (with_reducible assumption) | (go_simp; done) | (exact cell_keep blw (by assumption)) | exact blw))) (first | (go_at_call 68; ((with_reducible refine (hbi _).mono ?_); rintro _ _ ⟨rfl, rfl⟩)) | (go_at_call 25; ((with_reducible refine (hwi _).mono ?_); rintro _ _ ⟨rfl, rfl⟩))); go_wp2_with fail; exact ⟨⟨j + 1, by omega, by go_num, ⟨all_step HA.out EB.out⟩, ⟨K.out.drew⟩, ⟨blw⟩⟩, by simp [intOf]; omega⟩)); (focus (go_wp2_with fail; go_region_held3 (fun w' => w'.cell? ⟨w.heap.size, j, none⟩ = some (.int .i64 x)) (first | (go_keep; done) | (go_split_ands; (repeat' apply And.intro) <;> (first | (with_reducible assumption) | (go_simp; done) | (exact cell_keep blw (by assumption)) | exact blw))) (first | (go_at_call 68; ((with_reducible refine (hbi _).mono ?_); rintro _ _ ⟨rfl, rfl⟩)) | (go_at_call 25; ((with_reducible refine (hwi _).mono ?_); rintro _ _ ⟨rfl, rfl⟩))); go_wp2_with fail; go_ret; exact ⟨ret_of (congrArg Value.bool (knOk_no hlt EB.out).symm), blw⟩))
    · go_wp2
      go_ret
      exact ⟨ret_of (congrArg Value.bool ((knOk_iff k).2 (fun i hi => HA.out i (by omega))).symm), blw⟩
end Go.Proofs.YthlmddcjbhacmaaDoor
