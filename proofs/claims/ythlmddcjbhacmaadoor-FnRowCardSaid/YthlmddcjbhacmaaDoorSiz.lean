/- Modes and sizes of operations in the program; numbers within bounds. -/
import Derived.Test.YthlmddcjbhacmaaDoorTimes
set_option linter.unusedVariables false
set_option linter.unusedSimpArgs false
namespace Go.Proofs.YthlmddcjbhacmaaDoor
open Go.RowKit Go.Proofs.YthlmddcjbhacmaaDoorW.PrintWords
theorem of_byteS {p : Int → Prop} (h : ∀ c : Nat, c < 256 → p c) (code : Int) (h0 : 0 ≤ code) (h1 : code < 256) : p code := by
  have := h code.toNat (by omega)
  rwa [Int.toNat_of_nonneg h0] at this
theorem mdS_b : ∀ c : Nat, c < 256 → -1 ≤ mdS c ∧ mdS c ≤ 12 := by decide +kernel
theorem mode_casesS (m : Int) (h0 : -1 ≤ m) (h1 : m ≤ 12) : m = -1 ∨ m = 0 ∨ m = 1 ∨ m = 2 ∨ m = 3 ∨ m = 4 ∨ m = 5 ∨ m = 6 ∨ m = 7 ∨ m = 8 ∨ m = 9 ∨ m = 10 ∨ m = 11 ∨ m = 12 := by omega
def sizeM (m : Int) : Int := if m == -1 then 0 else if m == 0 || m == 1 then 1 else if m == 6 || m == 7 || m == 8 || m == 9 then 3 else 2
theorem sizeM_b (m : Int) : 0 ≤ sizeM m ∧ sizeM m ≤ 3 := by
  unfold sizeM
  split
  · omega
  split
  · omega
  split <;> omega
set_option maxHeartbeats 1000000 in
theorem spec_SizeOf (code : Int) (w : World) (h0 : 0 ≤ code) (h1 : code < 256) :
    Calls Tryd.prog 21 #[.int .u8 code] w fun e w' => e = .returned (.int .i64 (sizeM (mdS code))) ∧ Below w.heap.size w w' := by
  have ho := spec_ModeOf code w h0 h1
  obtain ⟨m0, m1⟩ := of_byteS (p := fun c => -1 ≤ mdS c ∧ mdS c ≤ 12) mdS_b code h0 h1
  generalize mdS code = m at ho m0 m1 ⊢
  rcases mode_casesS m m0 m1 with rfl | rfl | rfl | rfl | rfl | rfl | rfl | rfl | rfl | rfl | rfl | rfl | rfl | rfl
  all_goals
    have HB := hR w; go_enter Tryd.func21, Tryd.ntmps21
    go_wp2_with fail
    refine ho.mono ?_
    rintro _ w1 ⟨rfl, hb⟩
    (have HB := Aside0.mk (below_step (w := w) blw hb); have hz1 := hb.size; obtain ⟨hcl1, hfr1, hlt1, _⟩ := bcell hb; (try simp only [sA, sC, sD] at hz1); (try simp only [sA, sC, sD] at hcl1 hfr1 hlt1); have HB1 := hR w1; clear hb)
    go_wp2_with fail
    go_ret
    exact ⟨rfl, blw⟩
theorem impl_ModeOf (code : Int) (w : World) (h0 : 0 ≤ code) (h1 : code < 256) (he : Env w) :
    Calls Tryd.prog 55 #[.int .u8 code] w fun e w' => e = .returned (.int .i64 (mdI code)) ∧ Below w.heap.size w w' := by
  have ho := impl_operation code w h0 h1 he
  have HB := hR w; go_enter Tryd.func55, Tryd.ntmps55
  go_wp2_with fail
  refine ho.mono ?_
  rintro _ w1 ⟨rfl, hb⟩
  (have HB := Aside0.mk (below_step (w := w) blw hb); have hz1 := hb.size; obtain ⟨hcl1, hfr1, hlt1, _⟩ := bcell hb; (try simp only [sA, sC, sD] at hz1); (try simp only [sA, sC, sD] at hcl1 hfr1 hlt1); have HB1 := hR w1; clear hb)
  go_wp2_with fail
  go_ret
  exact ⟨rfl, blw⟩
set_option maxHeartbeats 1000000 in
theorem impl_SizeOf (code : Int) (w : World) (h0 : 0 ≤ code) (h1 : code < 256) (he : Env w) :
    Calls Tryd.prog 27 #[.int .u8 code] w fun e w' => e = .returned (.int .i64 (sizeM (mdI code))) ∧ Below w.heap.size w w' := by
  have ho := impl_ModeOf code w h0 h1 he
  obtain ⟨m0, m1⟩ := of_byte (p := fun c => -1 ≤ mdI c ∧ mdI c ≤ 12) mdI_b code h0 h1
  generalize mdI code = m at ho m0 m1 ⊢
  rcases mode_cases m m0 m1 with rfl | rfl | rfl | rfl | rfl | rfl | rfl | rfl | rfl | rfl | rfl | rfl | rfl | rfl
  all_goals
    have HB := hR w; go_enter Tryd.func27, Tryd.ntmps27
    go_wp2_with fail
    refine ho.mono ?_
    rintro _ w1 ⟨rfl, hb⟩
    (have HB := Aside0.mk (below_step (w := w) blw hb); have hz1 := hb.size; obtain ⟨hcl1, hfr1, hlt1, _⟩ := bcell hb; (try simp only [sA, sC, sD] at hz1); (try simp only [sA, sC, sD] at hcl1 hfr1 hlt1); have HB1 := hR w1; clear hb)
    go_wp2_with fail
    go_ret
    exact ⟨rfl, blw⟩
theorem impl_within (n lo hi : Int) (w : World) : Calls Tryd.prog 25 #[.int .i64 n, .int .i64 lo, .int .i64 hi] w fun e w' => e = .returned (.bool (decide (lo ≤ n) && decide (n ≤ hi))) ∧ w = w' := by
  by_cases h : lo ≤ n
  · by_cases h2 : n ≤ hi
    · have HB := hR w; go_enter Tryd.func25, Tryd.ntmps25
      go_wp2
      go_ret
      exact ⟨ret_of (congrArg Value.bool (by simp [h, h2])), rfl⟩
    · have HB := hR w; go_enter Tryd.func25, Tryd.ntmps25
      go_wp2
      go_ret
      exact ⟨ret_of (congrArg Value.bool (by simp [h, h2])), rfl⟩
  · have HB := hR w; go_enter Tryd.func25, Tryd.ntmps25
    go_wp2
    go_ret
    exact ⟨ret_of (congrArg Value.bool (show false = _ from by rw [show decide (lo ≤ n) = false from by simp [h]]; rfl)), rfl⟩
theorem spec_l01In (n lo hi : Int) (w : World) : Calls Tryd.prog 19 #[.int .i64 n, .int .i64 lo, .int .i64 hi] w fun e w' => e = .returned (.bool (decide (lo ≤ n) && decide (n ≤ hi))) ∧ w = w' := by
  by_cases h : lo ≤ n
  · by_cases h2 : n ≤ hi
    · have HB := hR w; go_enter Tryd.func19, Tryd.ntmps19
      go_wp2
      go_ret
      exact ⟨ret_of (congrArg Value.bool (by simp [h, h2])), rfl⟩
    · have HB := hR w; go_enter Tryd.func19, Tryd.ntmps19
      go_wp2
      go_ret
      exact ⟨ret_of (congrArg Value.bool (by simp [h, h2])), rfl⟩
  · have HB := hR w; go_enter Tryd.func19, Tryd.ntmps19
    go_wp2
    go_ret
    exact ⟨ret_of (congrArg Value.bool (show false = _ from by rw [show decide (lo ≤ n) = false from by simp [h]]; rfl)), rfl⟩
end Go.Proofs.YthlmddcjbhacmaaDoor
