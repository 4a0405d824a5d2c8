/- The program's kinds and times of operations. -/
import Derived.Test.YthlmddcjbhacmaaDoorOpK
import Derived.Test.YthlmddcjbhacmaaDoorAlu
set_option linter.unusedVariables false
set_option linter.unusedSimpArgs false
namespace Go.Proofs.YthlmddcjbhacmaaDoor
open Go.RowKit Go.Proofs.YthlmddcjbhacmaaDoorW.PrintWords
def kindN (x : List UInt8) (m : Int) : Int :=
  if x == [] then 0 else if m == 12 then 5 else if x == [74, 77, 80] then 6 else if x == [74, 83, 82] then 7 else if x == [82, 84, 83] then 8 else if x == [82, 84, 73] then 9 else if x == [66, 82, 75] then 10
  else if x == [80, 72, 65] || x == [80, 72, 80] then 11 else if x == [80, 76, 65] || x == [80, 76, 80] then 12 else if x == [83, 84, 65] || x == [83, 84, 88] || x == [83, 84, 89] then 3
  else if m == 0 || m == 1 then 1 else if Lib.contains [65, 83, 76, 32, 76, 83, 82, 32, 82, 79, 76, 32, 82, 79, 82, 32, 73, 78, 67, 32, 68, 69, 67] x then 4 else 2
def kindI (code : Int) : Int := kindN (nmL code) (mdI code)
set_option maxHeartbeats 1000000 in
theorem impl_KindOf (code : Int) (w : World) (h0 : 0 ≤ code) (h1 : code < 256) (he : Env w) :
    Calls Tryd.prog 28 #[.int .u8 code] w fun e w' => e = .returned (.int .i64 (kindI code)) ∧ Below w.heap.size w w' := by
  have ho := impl_operation code w h0 h1 he
  unfold kindI
  generalize nmL code = x at ho ⊢
  generalize mdI code = m at ho ⊢
  by_cases hx : x = []
  · subst hx
    rw [show kindN [] m = 0 from rfl]
    have HB := hR w; go_enter Tryd.func28, Tryd.ntmps28; go_wp2_with fail; refine ho.mono ?_; rintro _ w1 ⟨rfl, hb⟩; (have HB := Aside0.mk (below_step (w := w) blw hb); have hz1 := hb.size; obtain ⟨hcl1, hfr1, hlt1, _⟩ := bcell hb; (try simp only [sA, sC, sD] at hz1); (try simp only [sA, sC, sD] at hcl1 hfr1 hlt1); have HB1 := hR w1; clear hb); go_wp2_with fail; go_ret; exact ⟨rfl, blw⟩
  have hx1 : (x == []) = false := beq_eq_false_iff_ne.2 hx
  have hx2 : x.isEmpty = false := by cases x with | nil => exact absurd rfl hx | cons a t => rfl
  by_cases h12 : m = 12
  · subst h12
    rw [show kindN x 12 = 5 from by simp [kindN, hx1]]
    clear hx
    have HB := hR w; go_enter Tryd.func28, Tryd.ntmps28; go_wp2_with fail; refine ho.mono ?_; rintro _ w1 ⟨rfl, hb⟩; (have HB := Aside0.mk (below_step (w := w) blw hb); have hz1 := hb.size; obtain ⟨hcl1, hfr1, hlt1, _⟩ := bcell hb; (try simp only [sA, sC, sD] at hz1); (try simp only [sA, sC, sD] at hcl1 hfr1 hlt1); have HB1 := hR w1; clear hb); go_wp2_with fail; go_ret; exact ⟨rfl, blw⟩
  have n12 : (m == 12) = false := beq_eq_false_iff_ne.2 h12
  by_cases q0 : x = [74, 77, 80]
  · subst q0
    rw [show kindN [74, 77, 80] m = 6 from by simp [kindN, h12]]
    clear hx hx1 hx2
    have HB := hR w; go_enter Tryd.func28, Tryd.ntmps28; go_wp2_with fail; refine ho.mono ?_; rintro _ w1 ⟨rfl, hb⟩; (have HB := Aside0.mk (below_step (w := w) blw hb); have hz1 := hb.size; obtain ⟨hcl1, hfr1, hlt1, _⟩ := bcell hb; (try simp only [sA, sC, sD] at hz1); (try simp only [sA, sC, sD] at hcl1 hfr1 hlt1); have HB1 := hR w1; clear hb); go_wp2_with fail; go_ret; exact ⟨rfl, blw⟩
  have nJMP : (x == [74, 77, 80]) = false := beq_eq_false_iff_ne.2 q0
  by_cases q1 : x = [74, 83, 82]
  · subst q1
    rw [show kindN [74, 83, 82] m = 7 from by simp [kindN, h12]]
    clear hx hx1 hx2
    have HB := hR w; go_enter Tryd.func28, Tryd.ntmps28; go_wp2_with fail; refine ho.mono ?_; rintro _ w1 ⟨rfl, hb⟩; (have HB := Aside0.mk (below_step (w := w) blw hb); have hz1 := hb.size; obtain ⟨hcl1, hfr1, hlt1, _⟩ := bcell hb; (try simp only [sA, sC, sD] at hz1); (try simp only [sA, sC, sD] at hcl1 hfr1 hlt1); have HB1 := hR w1; clear hb); go_wp2_with fail; go_ret; exact ⟨rfl, blw⟩
  have nJSR : (x == [74, 83, 82]) = false := beq_eq_false_iff_ne.2 q1
  by_cases q2 : x = [82, 84, 83]
  · subst q2
    rw [show kindN [82, 84, 83] m = 8 from by simp [kindN, h12]]
    clear hx hx1 hx2
    have HB := hR w; go_enter Tryd.func28, Tryd.ntmps28; go_wp2_with fail; refine ho.mono ?_; rintro _ w1 ⟨rfl, hb⟩; (have HB := Aside0.mk (below_step (w := w) blw hb); have hz1 := hb.size; obtain ⟨hcl1, hfr1, hlt1, _⟩ := bcell hb; (try simp only [sA, sC, sD] at hz1); (try simp only [sA, sC, sD] at hcl1 hfr1 hlt1); have HB1 := hR w1; clear hb); go_wp2_with fail; go_ret; exact ⟨rfl, blw⟩
  have nRTS : (x == [82, 84, 83]) = false := beq_eq_false_iff_ne.2 q2
  by_cases q3 : x = [82, 84, 73]
  · subst q3
    rw [show kindN [82, 84, 73] m = 9 from by simp [kindN, h12]]
    clear hx hx1 hx2
    have HB := hR w; go_enter Tryd.func28, Tryd.ntmps28; go_wp2_with fail; refine ho.mono ?_; rintro _ w1 ⟨rfl, hb⟩; (have HB := Aside0.mk (below_step (w := w) blw hb); have hz1 := hb.size; obtain ⟨hcl1, hfr1, hlt1, _⟩ := bcell hb; (try simp only [sA, sC, sD] at hz1); (try simp only [sA, sC, sD] at hcl1 hfr1 hlt1); have HB1 := hR w1; clear hb); go_wp2_with fail; go_ret; exact ⟨rfl, blw⟩
  have nRTI : (x == [82, 84, 73]) = false := beq_eq_false_iff_ne.2 q3
  by_cases q4 : x = [66, 82, 75]
  · subst q4
    rw [show kindN [66, 82, 75] m = 10 from by simp [kindN, h12]]
    clear hx hx1 hx2
    have HB := hR w; go_enter Tryd.func28, Tryd.ntmps28; go_wp2_with fail; refine ho.mono ?_; rintro _ w1 ⟨rfl, hb⟩; (have HB := Aside0.mk (below_step (w := w) blw hb); have hz1 := hb.size; obtain ⟨hcl1, hfr1, hlt1, _⟩ := bcell hb; (try simp only [sA, sC, sD] at hz1); (try simp only [sA, sC, sD] at hcl1 hfr1 hlt1); have HB1 := hR w1; clear hb); go_wp2_with fail; go_ret; exact ⟨rfl, blw⟩
  have nBRK : (x == [66, 82, 75]) = false := beq_eq_false_iff_ne.2 q4
  by_cases q5 : x = [80, 72, 65]
  · subst q5
    rw [show kindN [80, 72, 65] m = 11 from by simp [kindN, h12]]
    clear hx hx1 hx2
    have HB := hR w; go_enter Tryd.func28, Tryd.ntmps28; go_wp2_with fail; refine ho.mono ?_; rintro _ w1 ⟨rfl, hb⟩; (have HB := Aside0.mk (below_step (w := w) blw hb); have hz1 := hb.size; obtain ⟨hcl1, hfr1, hlt1, _⟩ := bcell hb; (try simp only [sA, sC, sD] at hz1); (try simp only [sA, sC, sD] at hcl1 hfr1 hlt1); have HB1 := hR w1; clear hb); go_wp2_with fail; go_ret; exact ⟨rfl, blw⟩
  have nPHA : (x == [80, 72, 65]) = false := beq_eq_false_iff_ne.2 q5
  by_cases q6 : x = [80, 72, 80]
  · subst q6
    rw [show kindN [80, 72, 80] m = 11 from by simp [kindN, h12]]
    clear hx hx1 hx2
    have HB := hR w; go_enter Tryd.func28, Tryd.ntmps28; go_wp2_with fail; refine ho.mono ?_; rintro _ w1 ⟨rfl, hb⟩; (have HB := Aside0.mk (below_step (w := w) blw hb); have hz1 := hb.size; obtain ⟨hcl1, hfr1, hlt1, _⟩ := bcell hb; (try simp only [sA, sC, sD] at hz1); (try simp only [sA, sC, sD] at hcl1 hfr1 hlt1); have HB1 := hR w1; clear hb); go_wp2_with fail; go_ret; exact ⟨rfl, blw⟩
  have nPHP : (x == [80, 72, 80]) = false := beq_eq_false_iff_ne.2 q6
  by_cases q7 : x = [80, 76, 65]
  · subst q7
    rw [show kindN [80, 76, 65] m = 12 from by simp [kindN, h12]]
    clear hx hx1 hx2
    have HB := hR w; go_enter Tryd.func28, Tryd.ntmps28; go_wp2_with fail; refine ho.mono ?_; rintro _ w1 ⟨rfl, hb⟩; (have HB := Aside0.mk (below_step (w := w) blw hb); have hz1 := hb.size; obtain ⟨hcl1, hfr1, hlt1, _⟩ := bcell hb; (try simp only [sA, sC, sD] at hz1); (try simp only [sA, sC, sD] at hcl1 hfr1 hlt1); have HB1 := hR w1; clear hb); go_wp2_with fail; go_ret; exact ⟨rfl, blw⟩
  have nPLA : (x == [80, 76, 65]) = false := beq_eq_false_iff_ne.2 q7
  by_cases q8 : x = [80, 76, 80]
  · subst q8
    rw [show kindN [80, 76, 80] m = 12 from by simp [kindN, h12]]
    clear hx hx1 hx2
    have HB := hR w; go_enter Tryd.func28, Tryd.ntmps28; go_wp2_with fail; refine ho.mono ?_; rintro _ w1 ⟨rfl, hb⟩; (have HB := Aside0.mk (below_step (w := w) blw hb); have hz1 := hb.size; obtain ⟨hcl1, hfr1, hlt1, _⟩ := bcell hb; (try simp only [sA, sC, sD] at hz1); (try simp only [sA, sC, sD] at hcl1 hfr1 hlt1); have HB1 := hR w1; clear hb); go_wp2_with fail; go_ret; exact ⟨rfl, blw⟩
  have nPLP : (x == [80, 76, 80]) = false := beq_eq_false_iff_ne.2 q8
  by_cases q9 : x = [83, 84, 65]
  · subst q9
    rw [show kindN [83, 84, 65] m = 3 from by simp [kindN, h12]]
    clear hx hx1 hx2
    have HB := hR w; go_enter Tryd.func28, Tryd.ntmps28; go_wp2_with fail; refine ho.mono ?_; rintro _ w1 ⟨rfl, hb⟩; (have HB := Aside0.mk (below_step (w := w) blw hb); have hz1 := hb.size; obtain ⟨hcl1, hfr1, hlt1, _⟩ := bcell hb; (try simp only [sA, sC, sD] at hz1); (try simp only [sA, sC, sD] at hcl1 hfr1 hlt1); have HB1 := hR w1; clear hb); go_wp2_with fail; go_ret; exact ⟨rfl, blw⟩
  have nSTA : (x == [83, 84, 65]) = false := beq_eq_false_iff_ne.2 q9
  by_cases q10 : x = [83, 84, 88]
  · subst q10
    rw [show kindN [83, 84, 88] m = 3 from by simp [kindN, h12]]
    clear hx hx1 hx2
    have HB := hR w; go_enter Tryd.func28, Tryd.ntmps28; go_wp2_with fail; refine ho.mono ?_; rintro _ w1 ⟨rfl, hb⟩; (have HB := Aside0.mk (below_step (w := w) blw hb); have hz1 := hb.size; obtain ⟨hcl1, hfr1, hlt1, _⟩ := bcell hb; (try simp only [sA, sC, sD] at hz1); (try simp only [sA, sC, sD] at hcl1 hfr1 hlt1); have HB1 := hR w1; clear hb); go_wp2_with fail; go_ret; exact ⟨rfl, blw⟩
  have nSTX : (x == [83, 84, 88]) = false := beq_eq_false_iff_ne.2 q10
  by_cases q11 : x = [83, 84, 89]
  · subst q11
    rw [show kindN [83, 84, 89] m = 3 from by simp [kindN, h12]]
    clear hx hx1 hx2
    have HB := hR w; go_enter Tryd.func28, Tryd.ntmps28; go_wp2_with fail; refine ho.mono ?_; rintro _ w1 ⟨rfl, hb⟩; (have HB := Aside0.mk (below_step (w := w) blw hb); have hz1 := hb.size; obtain ⟨hcl1, hfr1, hlt1, _⟩ := bcell hb; (try simp only [sA, sC, sD] at hz1); (try simp only [sA, sC, sD] at hcl1 hfr1 hlt1); have HB1 := hR w1; clear hb); go_wp2_with fail; go_ret; exact ⟨rfl, blw⟩
  have nSTY : (x == [83, 84, 89]) = false := beq_eq_false_iff_ne.2 q11
  have e : kindN x m = if m == 0 || m == 1 then 1 else if Lib.contains [65, 83, 76, 32, 76, 83, 82, 32, 82, 79, 76, 32, 82, 79, 82, 32, 73, 78, 67, 32, 68, 69, 67] x then 4 else 2 := by
    unfold kindN
    simp only [hx1, n12, nJMP, nJSR, nRTS, nRTI, nBRK, nPHA, nPHP, nPLA, nPLP, nSTA, nSTX, nSTY]
    simp
  rw [e]
  clear e hx q0 q1 q2 q3 q4 q5 q6 q7 q8 q9 q10 q11
  by_cases m0 : m = 0
  · subst m0
    rw [show (if ((0 : Int) == 0 || (0 : Int) == 1) = true then (1 : Int) else if Lib.contains [65, 83, 76, 32, 76, 83, 82, 32, 82, 79, 76, 32, 82, 79, 82, 32, 73, 78, 67, 32, 68, 69, 67] x = true then 4 else 2) = 1 from rfl]
    have HB := hR w; go_enter Tryd.func28, Tryd.ntmps28; go_wp2_with fail; refine ho.mono ?_; rintro _ w1 ⟨rfl, hb⟩; (have HB := Aside0.mk (below_step (w := w) blw hb); have hz1 := hb.size; obtain ⟨hcl1, hfr1, hlt1, _⟩ := bcell hb; (try simp only [sA, sC, sD] at hz1); (try simp only [sA, sC, sD] at hcl1 hfr1 hlt1); have HB1 := hR w1; clear hb); go_wp2_with fail; go_ret; exact ⟨rfl, blw⟩
  by_cases m1 : m = 1
  · subst m1
    rw [show (if ((1 : Int) == 0 || (1 : Int) == 1) = true then (1 : Int) else if Lib.contains [65, 83, 76, 32, 76, 83, 82, 32, 82, 79, 76, 32, 82, 79, 82, 32, 73, 78, 67, 32, 68, 69, 67] x = true then 4 else 2) = 1 from rfl]
    have HB := hR w; go_enter Tryd.func28, Tryd.ntmps28; go_wp2_with fail; refine ho.mono ?_; rintro _ w1 ⟨rfl, hb⟩; (have HB := Aside0.mk (below_step (w := w) blw hb); have hz1 := hb.size; obtain ⟨hcl1, hfr1, hlt1, _⟩ := bcell hb; (try simp only [sA, sC, sD] at hz1); (try simp only [sA, sC, sD] at hcl1 hfr1 hlt1); have HB1 := hR w1; clear hb); go_wp2_with fail; go_ret; exact ⟨rfl, blw⟩
  have b0 : (m == 0) = false := beq_eq_false_iff_ne.2 m0
  have b1 : (m == 1) = false := beq_eq_false_iff_ne.2 m1
  rw [b0, b1]
  have hc := fun W (h : Env W) => h.2.elim fun mm hmm => Tryd.strings_Contains ⟨#[65, 83, 76, 32, 76, 83, 82, 32, 82, 79, 76, 32, 82, 79, 82, 32, 73, 78, 67, 32, 68, 69, 67]⟩ ⟨x.toArray⟩ mm W (by decide) hmm
  simp only [] at hc
  generalize Lib.contains [65, 83, 76, 32, 76, 83, 82, 32, 82, 79, 76, 32, 82, 79, 82, 32, 73, 78, 67, 32, 68, 69, 67] x = cb at hc ⊢
  cases cb
  · rw [show (if (false || false) = true then (1 : Int) else if false = true then 4 else 2) = 2 from rfl]
    have HB := hR w; go_enter Tryd.func28, Tryd.ntmps28; go_wp2_with fail; refine ho.mono ?_; rintro _ w1 ⟨rfl, hb⟩; have hk := hc w1 (he.below hb); (have HB := Aside0.mk (below_step (w := w) blw hb); have hz1 := hb.size; obtain ⟨hcl1, hfr1, hlt1, _⟩ := bcell hb; (try simp only [sA, sC, sD] at hz1); (try simp only [sA, sC, sD] at hcl1 hfr1 hlt1); have HB1 := hR w1; clear hb); go_wp2_with fail; refine hk.mono ?_; rintro _ _ ⟨rfl, rfl⟩; go_wp2_with fail; go_ret; exact ⟨rfl, blw⟩
  · rw [show (if (false || false) = true then (1 : Int) else if true = true then 4 else 2) = 4 from rfl]
    have HB := hR w; go_enter Tryd.func28, Tryd.ntmps28; go_wp2_with fail; refine ho.mono ?_; rintro _ w1 ⟨rfl, hb⟩; have hk := hc w1 (he.below hb); (have HB := Aside0.mk (below_step (w := w) blw hb); have hz1 := hb.size; obtain ⟨hcl1, hfr1, hlt1, _⟩ := bcell hb; (try simp only [sA, sC, sD] at hz1); (try simp only [sA, sC, sD] at hcl1 hfr1 hlt1); have HB1 := hR w1; clear hb); go_wp2_with fail; refine hk.mono ?_; rintro _ _ ⟨rfl, rfl⟩; go_wp2_with fail; go_ret; exact ⟨rfl, blw⟩
end Go.Proofs.YthlmddcjbhacmaaDoor
