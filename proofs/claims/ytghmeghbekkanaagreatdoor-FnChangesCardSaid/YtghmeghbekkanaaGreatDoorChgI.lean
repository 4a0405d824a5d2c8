/- What an operation changes, as the program and the reference tell it (printed by wip/mkchg.py). -/
import Derived.Test.YtghmeghbekkanaaGreatDoorChgL
import Derived.Test.YtghmeghbekkanaaGreatDoorGI
set_option linter.unusedVariables false
set_option linter.unusedSimpArgs false
namespace Go.Proofs.YtghmeghbekkanaaGreatDoor
open Go.RowKit Go.Proofs.YtghmeghbekkanaaGreatDoorW.PrintWords
theorem nm_cases (x : List UInt8) (P : List UInt8 → Prop) (h0 : P [76, 68, 65]) (h1 : P [79, 82, 65]) (h2 : P [65, 78, 68]) (h3 : P [69, 79, 82]) (h4 : P [84, 88, 65]) (h5 : P [84, 89, 65]) (h6 : P [80, 76, 65]) (h7 : P [76, 68, 88]) (h8 : P [73, 78, 88]) (h9 : P [68, 69, 88]) (h10 : P [84, 65, 88]) (h11 : P [84, 83, 88]) (h12 : P [76, 68, 89]) (h13 : P [73, 78, 89]) (h14 : P [68, 69, 89]) (h15 : P [84, 65, 89]) (h16 : P [65, 68, 67]) (h17 : P [83, 66, 67]) (h18 : P [67, 77, 80]) (h19 : P [67, 80, 88]) (h20 : P [67, 80, 89]) (h21 : P [66, 73, 84]) (h22 : P [73, 78, 67]) (h23 : P [68, 69, 67]) (h24 : P [65, 83, 76]) (h25 : P [76, 83, 82]) (h26 : P [82, 79, 76]) (h27 : P [82, 79, 82]) (h28 : P [84, 88, 83]) (h29 : P [74, 83, 82]) (h30 : P [82, 84, 83]) (h31 : P [80, 72, 65]) (h32 : P [80, 72, 80]) (h33 : P [66, 82, 75]) (h34 : P [67, 76, 67]) (h35 : P [83, 69, 67]) (h36 : P [67, 76, 73]) (h37 : P [83, 69, 73]) (h38 : P [67, 76, 68]) (h39 : P [83, 69, 68]) (h40 : P [67, 76, 86]) (h41 : P [80, 76, 80]) (h42 : P [82, 84, 73])
    (hn : (x == [76, 68, 65]) = false → (x == [79, 82, 65]) = false → (x == [65, 78, 68]) = false → (x == [69, 79, 82]) = false → (x == [84, 88, 65]) = false → (x == [84, 89, 65]) = false → (x == [80, 76, 65]) = false → (x == [76, 68, 88]) = false → (x == [73, 78, 88]) = false → (x == [68, 69, 88]) = false → (x == [84, 65, 88]) = false → (x == [84, 83, 88]) = false → (x == [76, 68, 89]) = false → (x == [73, 78, 89]) = false → (x == [68, 69, 89]) = false → (x == [84, 65, 89]) = false → (x == [65, 68, 67]) = false → (x == [83, 66, 67]) = false → (x == [67, 77, 80]) = false → (x == [67, 80, 88]) = false → (x == [67, 80, 89]) = false → (x == [66, 73, 84]) = false → (x == [73, 78, 67]) = false → (x == [68, 69, 67]) = false → (x == [65, 83, 76]) = false → (x == [76, 83, 82]) = false → (x == [82, 79, 76]) = false → (x == [82, 79, 82]) = false → (x == [84, 88, 83]) = false → (x == [74, 83, 82]) = false → (x == [82, 84, 83]) = false → (x == [80, 72, 65]) = false → (x == [80, 72, 80]) = false → (x == [66, 82, 75]) = false → (x == [67, 76, 67]) = false → (x == [83, 69, 67]) = false → (x == [67, 76, 73]) = false → (x == [83, 69, 73]) = false → (x == [67, 76, 68]) = false → (x == [83, 69, 68]) = false → (x == [67, 76, 86]) = false → (x == [80, 76, 80]) = false → (x == [82, 84, 73]) = false → P x) : P x := by
  by_cases q0 : x = [76, 68, 65]
  · subst q0; exact h0
  by_cases q1 : x = [79, 82, 65]
  · subst q1; exact h1
  by_cases q2 : x = [65, 78, 68]
  · subst q2; exact h2
  by_cases q3 : x = [69, 79, 82]
  · subst q3; exact h3
  by_cases q4 : x = [84, 88, 65]
  · subst q4; exact h4
  by_cases q5 : x = [84, 89, 65]
  · subst q5; exact h5
  by_cases q6 : x = [80, 76, 65]
  · subst q6; exact h6
  by_cases q7 : x = [76, 68, 88]
  · subst q7; exact h7
  by_cases q8 : x = [73, 78, 88]
  · subst q8; exact h8
  by_cases q9 : x = [68, 69, 88]
  · subst q9; exact h9
  by_cases q10 : x = [84, 65, 88]
  · subst q10; exact h10
  by_cases q11 : x = [84, 83, 88]
  · subst q11; exact h11
  by_cases q12 : x = [76, 68, 89]
  · subst q12; exact h12
  by_cases q13 : x = [73, 78, 89]
  · subst q13; exact h13
  by_cases q14 : x = [68, 69, 89]
  · subst q14; exact h14
  by_cases q15 : x = [84, 65, 89]
  · subst q15; exact h15
  by_cases q16 : x = [65, 68, 67]
  · subst q16; exact h16
  by_cases q17 : x = [83, 66, 67]
  · subst q17; exact h17
  by_cases q18 : x = [67, 77, 80]
  · subst q18; exact h18
  by_cases q19 : x = [67, 80, 88]
  · subst q19; exact h19
  by_cases q20 : x = [67, 80, 89]
  · subst q20; exact h20
  by_cases q21 : x = [66, 73, 84]
  · subst q21; exact h21
  by_cases q22 : x = [73, 78, 67]
  · subst q22; exact h22
  by_cases q23 : x = [68, 69, 67]
  · subst q23; exact h23
  by_cases q24 : x = [65, 83, 76]
  · subst q24; exact h24
  by_cases q25 : x = [76, 83, 82]
  · subst q25; exact h25
  by_cases q26 : x = [82, 79, 76]
  · subst q26; exact h26
  by_cases q27 : x = [82, 79, 82]
  · subst q27; exact h27
  by_cases q28 : x = [84, 88, 83]
  · subst q28; exact h28
  by_cases q29 : x = [74, 83, 82]
  · subst q29; exact h29
  by_cases q30 : x = [82, 84, 83]
  · subst q30; exact h30
  by_cases q31 : x = [80, 72, 65]
  · subst q31; exact h31
  by_cases q32 : x = [80, 72, 80]
  · subst q32; exact h32
  by_cases q33 : x = [66, 82, 75]
  · subst q33; exact h33
  by_cases q34 : x = [67, 76, 67]
  · subst q34; exact h34
  by_cases q35 : x = [83, 69, 67]
  · subst q35; exact h35
  by_cases q36 : x = [67, 76, 73]
  · subst q36; exact h36
  by_cases q37 : x = [83, 69, 73]
  · subst q37; exact h37
  by_cases q38 : x = [67, 76, 68]
  · subst q38; exact h38
  by_cases q39 : x = [83, 69, 68]
  · subst q39; exact h39
  by_cases q40 : x = [67, 76, 86]
  · subst q40; exact h40
  by_cases q41 : x = [80, 76, 80]
  · subst q41; exact h41
  by_cases q42 : x = [82, 84, 73]
  · subst q42; exact h42
  exact hn (beq_eq_false_iff_ne.2 q0) (beq_eq_false_iff_ne.2 q1) (beq_eq_false_iff_ne.2 q2) (beq_eq_false_iff_ne.2 q3) (beq_eq_false_iff_ne.2 q4) (beq_eq_false_iff_ne.2 q5) (beq_eq_false_iff_ne.2 q6) (beq_eq_false_iff_ne.2 q7) (beq_eq_false_iff_ne.2 q8) (beq_eq_false_iff_ne.2 q9) (beq_eq_false_iff_ne.2 q10) (beq_eq_false_iff_ne.2 q11) (beq_eq_false_iff_ne.2 q12) (beq_eq_false_iff_ne.2 q13) (beq_eq_false_iff_ne.2 q14) (beq_eq_false_iff_ne.2 q15) (beq_eq_false_iff_ne.2 q16) (beq_eq_false_iff_ne.2 q17) (beq_eq_false_iff_ne.2 q18) (beq_eq_false_iff_ne.2 q19) (beq_eq_false_iff_ne.2 q20) (beq_eq_false_iff_ne.2 q21) (beq_eq_false_iff_ne.2 q22) (beq_eq_false_iff_ne.2 q23) (beq_eq_false_iff_ne.2 q24) (beq_eq_false_iff_ne.2 q25) (beq_eq_false_iff_ne.2 q26) (beq_eq_false_iff_ne.2 q27) (beq_eq_false_iff_ne.2 q28) (beq_eq_false_iff_ne.2 q29) (beq_eq_false_iff_ne.2 q30) (beq_eq_false_iff_ne.2 q31) (beq_eq_false_iff_ne.2 q32) (beq_eq_false_iff_ne.2 q33) (beq_eq_false_iff_ne.2 q34) (beq_eq_false_iff_ne.2 q35) (beq_eq_false_iff_ne.2 q36) (beq_eq_false_iff_ne.2 q37) (beq_eq_false_iff_ne.2 q38) (beq_eq_false_iff_ne.2 q39) (beq_eq_false_iff_ne.2 q40) (beq_eq_false_iff_ne.2 q41) (beq_eq_false_iff_ne.2 q42)
theorem chg_none (x : List UInt8) (m : Int) (q0 : (x == [76, 68, 65]) = false) (q1 : (x == [79, 82, 65]) = false) (q2 : (x == [65, 78, 68]) = false) (q3 : (x == [69, 79, 82]) = false) (q4 : (x == [84, 88, 65]) = false) (q5 : (x == [84, 89, 65]) = false) (q6 : (x == [80, 76, 65]) = false) (q7 : (x == [76, 68, 88]) = false) (q8 : (x == [73, 78, 88]) = false) (q9 : (x == [68, 69, 88]) = false) (q10 : (x == [84, 65, 88]) = false) (q11 : (x == [84, 83, 88]) = false) (q12 : (x == [76, 68, 89]) = false) (q13 : (x == [73, 78, 89]) = false) (q14 : (x == [68, 69, 89]) = false) (q15 : (x == [84, 65, 89]) = false) (q16 : (x == [65, 68, 67]) = false) (q17 : (x == [83, 66, 67]) = false) (q18 : (x == [67, 77, 80]) = false) (q19 : (x == [67, 80, 88]) = false) (q20 : (x == [67, 80, 89]) = false) (q21 : (x == [66, 73, 84]) = false) (q22 : (x == [73, 78, 67]) = false) (q23 : (x == [68, 69, 67]) = false) (q24 : (x == [65, 83, 76]) = false) (q25 : (x == [76, 83, 82]) = false) (q26 : (x == [82, 79, 76]) = false) (q27 : (x == [82, 79, 82]) = false) (q28 : (x == [84, 88, 83]) = false) (q29 : (x == [74, 83, 82]) = false) (q30 : (x == [82, 84, 83]) = false) (q31 : (x == [80, 72, 65]) = false) (q32 : (x == [80, 72, 80]) = false) (q33 : (x == [66, 82, 75]) = false) (q34 : (x == [67, 76, 67]) = false) (q35 : (x == [83, 69, 67]) = false) (q36 : (x == [67, 76, 73]) = false) (q37 : (x == [83, 69, 73]) = false) (q38 : (x == [67, 76, 68]) = false) (q39 : (x == [83, 69, 68]) = false) (q40 : (x == [67, 76, 86]) = false) (q41 : (x == [80, 76, 80]) = false) (q42 : (x == [82, 84, 73]) = false) : chg x m = [] := by
  have h : shiftX x = false := by simp only [shiftX, q24, q25, q26, q27]; rfl
  refine chg_of x [] m h ?_
  simp only [chgT, List.lookup, q0, q1, q2, q3, q4, q5, q6, q7, q8, q9, q10, q11, q12, q13, q14, q15, q16, q17, q18, q19, q20, q21, q22, q23, q24, q25, q26, q27, q28, q29, q30, q31, q32, q33, q34, q35, q36, q37, q38, q39, q40, q41, q42]
  rfl
set_option maxRecDepth 20000 in
set_option maxHeartbeats 4000000 in
theorem impl_changed (x : List UInt8) (m : Int) (w : World) : Calls Tryz.prog 65 #[.string ⟨x.toArray⟩, .int .i64 m] w fun e w' => e = .returned (.string ⟨(chg x m).toArray⟩) ∧ w = w' := by
  refine nm_cases x (fun x => Calls Tryz.prog 65 #[.string ⟨x.toArray⟩, .int .i64 m] w fun e w' => e = .returned (.string ⟨(chg x m).toArray⟩) ∧ w = w') ?_ ?_ ?_ ?_ ?_ ?_ ?_ ?_ ?_ ?_ ?_ ?_ ?_ ?_ ?_ ?_ ?_ ?_ ?_ ?_ ?_ ?_ ?_ ?_ ?_ ?_ ?_ ?_ ?_ ?_ ?_ ?_ ?_ ?_ ?_ ?_ ?_ ?_ ?_ ?_ ?_ ?_ ?_ ?_
  · have HB := hR w; go_enter Tryz.func65, Tryz.ntmps65
    go_wp2
    go_ret
    exact ⟨rfl, rfl⟩
  · have HB := hR w; go_enter Tryz.func65, Tryz.ntmps65
    go_wp2
    go_ret
    exact ⟨rfl, rfl⟩
  · have HB := hR w; go_enter Tryz.func65, Tryz.ntmps65
    go_wp2
    go_ret
    exact ⟨rfl, rfl⟩
  · have HB := hR w; go_enter Tryz.func65, Tryz.ntmps65
    go_wp2
    go_ret
    exact ⟨rfl, rfl⟩
  · have HB := hR w; go_enter Tryz.func65, Tryz.ntmps65
    go_wp2
    go_ret
    exact ⟨rfl, rfl⟩
  · have HB := hR w; go_enter Tryz.func65, Tryz.ntmps65
    go_wp2
    go_ret
    exact ⟨rfl, rfl⟩
  · have HB := hR w; go_enter Tryz.func65, Tryz.ntmps65
    go_wp2
    go_ret
    exact ⟨rfl, rfl⟩
  · have HB := hR w; go_enter Tryz.func65, Tryz.ntmps65
    go_wp2
    go_ret
    exact ⟨rfl, rfl⟩
  · have HB := hR w; go_enter Tryz.func65, Tryz.ntmps65
    go_wp2
    go_ret
    exact ⟨rfl, rfl⟩
  · have HB := hR w; go_enter Tryz.func65, Tryz.ntmps65
    go_wp2
    go_ret
    exact ⟨rfl, rfl⟩
  · have HB := hR w; go_enter Tryz.func65, Tryz.ntmps65
    go_wp2
    go_ret
    exact ⟨rfl, rfl⟩
  · have HB := hR w; go_enter Tryz.func65, Tryz.ntmps65
    go_wp2
    go_ret
    exact ⟨rfl, rfl⟩
  · have HB := hR w; go_enter Tryz.func65, Tryz.ntmps65
    go_wp2
    go_ret
    exact ⟨rfl, rfl⟩
  · have HB := hR w; go_enter Tryz.func65, Tryz.ntmps65
    go_wp2
    go_ret
    exact ⟨rfl, rfl⟩
  · have HB := hR w; go_enter Tryz.func65, Tryz.ntmps65
    go_wp2
    go_ret
    exact ⟨rfl, rfl⟩
  · have HB := hR w; go_enter Tryz.func65, Tryz.ntmps65
    go_wp2
    go_ret
    exact ⟨rfl, rfl⟩
  · have HB := hR w; go_enter Tryz.func65, Tryz.ntmps65
    go_wp2
    go_ret
    exact ⟨rfl, rfl⟩
  · have HB := hR w; go_enter Tryz.func65, Tryz.ntmps65
    go_wp2
    go_ret
    exact ⟨rfl, rfl⟩
  · have HB := hR w; go_enter Tryz.func65, Tryz.ntmps65
    go_wp2
    go_ret
    exact ⟨rfl, rfl⟩
  · have HB := hR w; go_enter Tryz.func65, Tryz.ntmps65
    go_wp2
    go_ret
    exact ⟨rfl, rfl⟩
  · have HB := hR w; go_enter Tryz.func65, Tryz.ntmps65
    go_wp2
    go_ret
    exact ⟨rfl, rfl⟩
  · have HB := hR w; go_enter Tryz.func65, Tryz.ntmps65
    go_wp2
    go_ret
    exact ⟨rfl, rfl⟩
  · have HB := hR w; go_enter Tryz.func65, Tryz.ntmps65
    go_wp2
    go_ret
    exact ⟨rfl, rfl⟩
  · have HB := hR w; go_enter Tryz.func65, Tryz.ntmps65
    go_wp2
    go_ret
    exact ⟨rfl, rfl⟩
  · by_cases hm : m = 1
    · subst hm
      have HB := hR w; go_enter Tryz.func65, Tryz.ntmps65
      go_wp2
      go_ret
      exact ⟨rfl, rfl⟩
    · have hb : (m == 1) = false := beq_eq_false_iff_ne.2 hm
      have HB := hR w; go_enter Tryz.func65, Tryz.ntmps65
      go_wp2
      go_ret
      exact ⟨ret_of (by unfold chg; rw [hb]; rfl), rfl⟩
  · by_cases hm : m = 1
    · subst hm
      have HB := hR w; go_enter Tryz.func65, Tryz.ntmps65
      go_wp2
      go_ret
      exact ⟨rfl, rfl⟩
    · have hb : (m == 1) = false := beq_eq_false_iff_ne.2 hm
      have HB := hR w; go_enter Tryz.func65, Tryz.ntmps65
      go_wp2
      go_ret
      exact ⟨ret_of (by unfold chg; rw [hb]; rfl), rfl⟩
  · by_cases hm : m = 1
    · subst hm
      have HB := hR w; go_enter Tryz.func65, Tryz.ntmps65
      go_wp2
      go_ret
      exact ⟨rfl, rfl⟩
    · have hb : (m == 1) = false := beq_eq_false_iff_ne.2 hm
      have HB := hR w; go_enter Tryz.func65, Tryz.ntmps65
      go_wp2
      go_ret
      exact ⟨ret_of (by unfold chg; rw [hb]; rfl), rfl⟩
  · by_cases hm : m = 1
    · subst hm
      have HB := hR w; go_enter Tryz.func65, Tryz.ntmps65
      go_wp2
      go_ret
      exact ⟨rfl, rfl⟩
    · have hb : (m == 1) = false := beq_eq_false_iff_ne.2 hm
      have HB := hR w; go_enter Tryz.func65, Tryz.ntmps65
      go_wp2
      go_ret
      exact ⟨ret_of (by unfold chg; rw [hb]; rfl), rfl⟩
  · have HB := hR w; go_enter Tryz.func65, Tryz.ntmps65
    go_wp2
    go_ret
    exact ⟨rfl, rfl⟩
  · have HB := hR w; go_enter Tryz.func65, Tryz.ntmps65
    go_wp2
    go_ret
    exact ⟨rfl, rfl⟩
  · have HB := hR w; go_enter Tryz.func65, Tryz.ntmps65
    go_wp2
    go_ret
    exact ⟨rfl, rfl⟩
  · have HB := hR w; go_enter Tryz.func65, Tryz.ntmps65
    go_wp2
    go_ret
    exact ⟨rfl, rfl⟩
  · have HB := hR w; go_enter Tryz.func65, Tryz.ntmps65
    go_wp2
    go_ret
    exact ⟨rfl, rfl⟩
  · have HB := hR w; go_enter Tryz.func65, Tryz.ntmps65
    go_wp2
    go_ret
    exact ⟨rfl, rfl⟩
  · have HB := hR w; go_enter Tryz.func65, Tryz.ntmps65
    go_wp2
    go_ret
    exact ⟨rfl, rfl⟩
  · have HB := hR w; go_enter Tryz.func65, Tryz.ntmps65
    go_wp2
    go_ret
    exact ⟨rfl, rfl⟩
  · have HB := hR w; go_enter Tryz.func65, Tryz.ntmps65
    go_wp2
    go_ret
    exact ⟨rfl, rfl⟩
  · have HB := hR w; go_enter Tryz.func65, Tryz.ntmps65
    go_wp2
    go_ret
    exact ⟨rfl, rfl⟩
  · have HB := hR w; go_enter Tryz.func65, Tryz.ntmps65
    go_wp2
    go_ret
    exact ⟨rfl, rfl⟩
  · have HB := hR w; go_enter Tryz.func65, Tryz.ntmps65
    go_wp2
    go_ret
    exact ⟨rfl, rfl⟩
  · have HB := hR w; go_enter Tryz.func65, Tryz.ntmps65
    go_wp2
    go_ret
    exact ⟨rfl, rfl⟩
  · have HB := hR w; go_enter Tryz.func65, Tryz.ntmps65
    go_wp2
    go_ret
    exact ⟨rfl, rfl⟩
  · have HB := hR w; go_enter Tryz.func65, Tryz.ntmps65
    go_wp2
    go_ret
    exact ⟨rfl, rfl⟩
  · intro q0 q1 q2 q3 q4 q5 q6 q7 q8 q9 q10 q11 q12 q13 q14 q15 q16 q17 q18 q19 q20 q21 q22 q23 q24 q25 q26 q27 q28 q29 q30 q31 q32 q33 q34 q35 q36 q37 q38 q39 q40 q41 q42
    rw [chg_none x m q0 q1 q2 q3 q4 q5 q6 q7 q8 q9 q10 q11 q12 q13 q14 q15 q16 q17 q18 q19 q20 q21 q22 q23 q24 q25 q26 q27 q28 q29 q30 q31 q32 q33 q34 q35 q36 q37 q38 q39 q40 q41 q42]
    have HB := hR w; go_enter Tryz.func65, Tryz.ntmps65
    go_wp2
    go_ret
    exact ⟨rfl, rfl⟩
theorem impl_Changes (code : Int) (w : World) (h0 : 0 ≤ code) (h1 : code < 256) (he : Env w) : Calls Tryz.prog 16 #[.int .u8 code] w fun e w' => e = .returned (.string ⟨(chg (nmL code) (mdI code)).toArray⟩) ∧ Below w.heap.size w w' := by
  have ho := impl_operation code w h0 h1 he
  have HB := hR w; go_enter Tryz.func16, Tryz.ntmps16
  go_wp2_with fail
  refine ho.mono ?_
  rintro _ w1 ⟨rfl, hb⟩
  (have HB := Aside0.mk (below_step (w := w) blw hb); have hz1 := hb.size; obtain ⟨hcl1, hfr1, hlt1, _⟩ := bcell hb; (try simp only [sA, sC, sD] at hz1); (try simp only [sA, sC, sD] at hcl1 hfr1 hlt1); have HB1 := hR w1; clear hb)
  go_wp2_with (first | (go_at_call 65; ((with_reducible refine (impl_changed _ _ _).mono ?_); rintro _ _ ⟨rfl, rfl⟩)))
  go_ret
  exact ⟨rfl, blw⟩
set_option maxRecDepth 20000 in
set_option maxHeartbeats 4000000 in
theorem spec_Changes (code : Int) (w : World) (h0 : 0 ≤ code) (h1 : code < 256) : Calls Tryz.prog 17 #[.int .u8 code] w fun e w' => e = .returned (.string ⟨(chg (nmL code) (mdI code)).toArray⟩) ∧ Below w.heap.size w w' := by
  have hn := spec_NameOf code w h0 h1
  have ho := fun W => spec_ModeOf code W h0 h1
  rw [of_byte (p := fun c => nmS c = nmL c) nmSI code h0 h1] at hn
  rw [of_byte (p := fun c => mdS c = mdI c) mdSI code h0 h1] at ho
  generalize nmL code = x at hn ⊢
  generalize mdI code = m at ho ⊢
  revert hn
  refine nm_cases x (fun x => (Calls Tryz.prog 59 #[.int .u8 code] w fun e w' => e = .returned (.string ⟨x.toArray⟩) ∧ Below w.heap.size w w') → Calls Tryz.prog 17 #[.int .u8 code] w fun e w' => e = .returned (.string ⟨(chg x m).toArray⟩) ∧ Below w.heap.size w w') ?_ ?_ ?_ ?_ ?_ ?_ ?_ ?_ ?_ ?_ ?_ ?_ ?_ ?_ ?_ ?_ ?_ ?_ ?_ ?_ ?_ ?_ ?_ ?_ ?_ ?_ ?_ ?_ ?_ ?_ ?_ ?_ ?_ ?_ ?_ ?_ ?_ ?_ ?_ ?_ ?_ ?_ ?_ ?_
  · intro hn
    have HB := hR w; go_enter Tryz.func17, Tryz.ntmps17
    go_wp2_with fail
    refine hn.mono ?_
    rintro _ w1 ⟨rfl, hb⟩
    (have HB := Aside0.mk (below_step (w := w) blw hb); have hz1 := hb.size; obtain ⟨hcl1, hfr1, hlt1, _⟩ := bcell hb; (try simp only [sA, sC, sD] at hz1); (try simp only [sA, sC, sD] at hcl1 hfr1 hlt1); have HB1 := hR w1; clear hb)
    go_wp2_with fail
    go_ret
    exact ⟨rfl, blw⟩
  · intro hn
    have HB := hR w; go_enter Tryz.func17, Tryz.ntmps17
    go_wp2_with fail
    refine hn.mono ?_
    rintro _ w1 ⟨rfl, hb⟩
    (have HB := Aside0.mk (below_step (w := w) blw hb); have hz1 := hb.size; obtain ⟨hcl1, hfr1, hlt1, _⟩ := bcell hb; (try simp only [sA, sC, sD] at hz1); (try simp only [sA, sC, sD] at hcl1 hfr1 hlt1); have HB1 := hR w1; clear hb)
    go_wp2_with fail
    go_ret
    exact ⟨rfl, blw⟩
  · intro hn
    have HB := hR w; go_enter Tryz.func17, Tryz.ntmps17
    go_wp2_with fail
    refine hn.mono ?_
    rintro _ w1 ⟨rfl, hb⟩
    (have HB := Aside0.mk (below_step (w := w) blw hb); have hz1 := hb.size; obtain ⟨hcl1, hfr1, hlt1, _⟩ := bcell hb; (try simp only [sA, sC, sD] at hz1); (try simp only [sA, sC, sD] at hcl1 hfr1 hlt1); have HB1 := hR w1; clear hb)
    go_wp2_with fail
    go_ret
    exact ⟨rfl, blw⟩
  · intro hn
    have HB := hR w; go_enter Tryz.func17, Tryz.ntmps17
    go_wp2_with fail
    refine hn.mono ?_
    rintro _ w1 ⟨rfl, hb⟩
    (have HB := Aside0.mk (below_step (w := w) blw hb); have hz1 := hb.size; obtain ⟨hcl1, hfr1, hlt1, _⟩ := bcell hb; (try simp only [sA, sC, sD] at hz1); (try simp only [sA, sC, sD] at hcl1 hfr1 hlt1); have HB1 := hR w1; clear hb)
    go_wp2_with fail
    go_ret
    exact ⟨rfl, blw⟩
  · intro hn
    have HB := hR w; go_enter Tryz.func17, Tryz.ntmps17
    go_wp2_with fail
    refine hn.mono ?_
    rintro _ w1 ⟨rfl, hb⟩
    (have HB := Aside0.mk (below_step (w := w) blw hb); have hz1 := hb.size; obtain ⟨hcl1, hfr1, hlt1, _⟩ := bcell hb; (try simp only [sA, sC, sD] at hz1); (try simp only [sA, sC, sD] at hcl1 hfr1 hlt1); have HB1 := hR w1; clear hb)
    go_wp2_with fail
    go_ret
    exact ⟨rfl, blw⟩
  · intro hn
    have HB := hR w; go_enter Tryz.func17, Tryz.ntmps17
    go_wp2_with fail
    refine hn.mono ?_
    rintro _ w1 ⟨rfl, hb⟩
    (have HB := Aside0.mk (below_step (w := w) blw hb); have hz1 := hb.size; obtain ⟨hcl1, hfr1, hlt1, _⟩ := bcell hb; (try simp only [sA, sC, sD] at hz1); (try simp only [sA, sC, sD] at hcl1 hfr1 hlt1); have HB1 := hR w1; clear hb)
    go_wp2_with fail
    go_ret
    exact ⟨rfl, blw⟩
  · intro hn
    have HB := hR w; go_enter Tryz.func17, Tryz.ntmps17
    go_wp2_with fail
    refine hn.mono ?_
    rintro _ w1 ⟨rfl, hb⟩
    (have HB := Aside0.mk (below_step (w := w) blw hb); have hz1 := hb.size; obtain ⟨hcl1, hfr1, hlt1, _⟩ := bcell hb; (try simp only [sA, sC, sD] at hz1); (try simp only [sA, sC, sD] at hcl1 hfr1 hlt1); have HB1 := hR w1; clear hb)
    go_wp2_with fail
    go_ret
    exact ⟨rfl, blw⟩
  · intro hn
    have HB := hR w; go_enter Tryz.func17, Tryz.ntmps17
    go_wp2_with fail
    refine hn.mono ?_
    rintro _ w1 ⟨rfl, hb⟩
    (have HB := Aside0.mk (below_step (w := w) blw hb); have hz1 := hb.size; obtain ⟨hcl1, hfr1, hlt1, _⟩ := bcell hb; (try simp only [sA, sC, sD] at hz1); (try simp only [sA, sC, sD] at hcl1 hfr1 hlt1); have HB1 := hR w1; clear hb)
    go_wp2_with fail
    go_ret
    exact ⟨rfl, blw⟩
  · intro hn
    have HB := hR w; go_enter Tryz.func17, Tryz.ntmps17
    go_wp2_with fail
    refine hn.mono ?_
    rintro _ w1 ⟨rfl, hb⟩
    (have HB := Aside0.mk (below_step (w := w) blw hb); have hz1 := hb.size; obtain ⟨hcl1, hfr1, hlt1, _⟩ := bcell hb; (try simp only [sA, sC, sD] at hz1); (try simp only [sA, sC, sD] at hcl1 hfr1 hlt1); have HB1 := hR w1; clear hb)
    go_wp2_with fail
    go_ret
    exact ⟨rfl, blw⟩
  · intro hn
    have HB := hR w; go_enter Tryz.func17, Tryz.ntmps17
    go_wp2_with fail
    refine hn.mono ?_
    rintro _ w1 ⟨rfl, hb⟩
    (have HB := Aside0.mk (below_step (w := w) blw hb); have hz1 := hb.size; obtain ⟨hcl1, hfr1, hlt1, _⟩ := bcell hb; (try simp only [sA, sC, sD] at hz1); (try simp only [sA, sC, sD] at hcl1 hfr1 hlt1); have HB1 := hR w1; clear hb)
    go_wp2_with fail
    go_ret
    exact ⟨rfl, blw⟩
  · intro hn
    have HB := hR w; go_enter Tryz.func17, Tryz.ntmps17
    go_wp2_with fail
    refine hn.mono ?_
    rintro _ w1 ⟨rfl, hb⟩
    (have HB := Aside0.mk (below_step (w := w) blw hb); have hz1 := hb.size; obtain ⟨hcl1, hfr1, hlt1, _⟩ := bcell hb; (try simp only [sA, sC, sD] at hz1); (try simp only [sA, sC, sD] at hcl1 hfr1 hlt1); have HB1 := hR w1; clear hb)
    go_wp2_with fail
    go_ret
    exact ⟨rfl, blw⟩
  · intro hn
    have HB := hR w; go_enter Tryz.func17, Tryz.ntmps17
    go_wp2_with fail
    refine hn.mono ?_
    rintro _ w1 ⟨rfl, hb⟩
    (have HB := Aside0.mk (below_step (w := w) blw hb); have hz1 := hb.size; obtain ⟨hcl1, hfr1, hlt1, _⟩ := bcell hb; (try simp only [sA, sC, sD] at hz1); (try simp only [sA, sC, sD] at hcl1 hfr1 hlt1); have HB1 := hR w1; clear hb)
    go_wp2_with fail
    go_ret
    exact ⟨rfl, blw⟩
  · intro hn
    have HB := hR w; go_enter Tryz.func17, Tryz.ntmps17
    go_wp2_with fail
    refine hn.mono ?_
    rintro _ w1 ⟨rfl, hb⟩
    (have HB := Aside0.mk (below_step (w := w) blw hb); have hz1 := hb.size; obtain ⟨hcl1, hfr1, hlt1, _⟩ := bcell hb; (try simp only [sA, sC, sD] at hz1); (try simp only [sA, sC, sD] at hcl1 hfr1 hlt1); have HB1 := hR w1; clear hb)
    go_wp2_with fail
    go_ret
    exact ⟨rfl, blw⟩
  · intro hn
    have HB := hR w; go_enter Tryz.func17, Tryz.ntmps17
    go_wp2_with fail
    refine hn.mono ?_
    rintro _ w1 ⟨rfl, hb⟩
    (have HB := Aside0.mk (below_step (w := w) blw hb); have hz1 := hb.size; obtain ⟨hcl1, hfr1, hlt1, _⟩ := bcell hb; (try simp only [sA, sC, sD] at hz1); (try simp only [sA, sC, sD] at hcl1 hfr1 hlt1); have HB1 := hR w1; clear hb)
    go_wp2_with fail
    go_ret
    exact ⟨rfl, blw⟩
  · intro hn
    have HB := hR w; go_enter Tryz.func17, Tryz.ntmps17
    go_wp2_with fail
    refine hn.mono ?_
    rintro _ w1 ⟨rfl, hb⟩
    (have HB := Aside0.mk (below_step (w := w) blw hb); have hz1 := hb.size; obtain ⟨hcl1, hfr1, hlt1, _⟩ := bcell hb; (try simp only [sA, sC, sD] at hz1); (try simp only [sA, sC, sD] at hcl1 hfr1 hlt1); have HB1 := hR w1; clear hb)
    go_wp2_with fail
    go_ret
    exact ⟨rfl, blw⟩
  · intro hn
    have HB := hR w; go_enter Tryz.func17, Tryz.ntmps17
    go_wp2_with fail
    refine hn.mono ?_
    rintro _ w1 ⟨rfl, hb⟩
    (have HB := Aside0.mk (below_step (w := w) blw hb); have hz1 := hb.size; obtain ⟨hcl1, hfr1, hlt1, _⟩ := bcell hb; (try simp only [sA, sC, sD] at hz1); (try simp only [sA, sC, sD] at hcl1 hfr1 hlt1); have HB1 := hR w1; clear hb)
    go_wp2_with fail
    go_ret
    exact ⟨rfl, blw⟩
  · intro hn
    have HB := hR w; go_enter Tryz.func17, Tryz.ntmps17
    go_wp2_with fail
    refine hn.mono ?_
    rintro _ w1 ⟨rfl, hb⟩
    (have HB := Aside0.mk (below_step (w := w) blw hb); have hz1 := hb.size; obtain ⟨hcl1, hfr1, hlt1, _⟩ := bcell hb; (try simp only [sA, sC, sD] at hz1); (try simp only [sA, sC, sD] at hcl1 hfr1 hlt1); have HB1 := hR w1; clear hb)
    go_wp2_with fail
    go_ret
    exact ⟨rfl, blw⟩
  · intro hn
    have HB := hR w; go_enter Tryz.func17, Tryz.ntmps17
    go_wp2_with fail
    refine hn.mono ?_
    rintro _ w1 ⟨rfl, hb⟩
    (have HB := Aside0.mk (below_step (w := w) blw hb); have hz1 := hb.size; obtain ⟨hcl1, hfr1, hlt1, _⟩ := bcell hb; (try simp only [sA, sC, sD] at hz1); (try simp only [sA, sC, sD] at hcl1 hfr1 hlt1); have HB1 := hR w1; clear hb)
    go_wp2_with fail
    go_ret
    exact ⟨rfl, blw⟩
  · intro hn
    have HB := hR w; go_enter Tryz.func17, Tryz.ntmps17
    go_wp2_with fail
    refine hn.mono ?_
    rintro _ w1 ⟨rfl, hb⟩
    (have HB := Aside0.mk (below_step (w := w) blw hb); have hz1 := hb.size; obtain ⟨hcl1, hfr1, hlt1, _⟩ := bcell hb; (try simp only [sA, sC, sD] at hz1); (try simp only [sA, sC, sD] at hcl1 hfr1 hlt1); have HB1 := hR w1; clear hb)
    go_wp2_with fail
    go_ret
    exact ⟨rfl, blw⟩
  · intro hn
    have HB := hR w; go_enter Tryz.func17, Tryz.ntmps17
    go_wp2_with fail
    refine hn.mono ?_
    rintro _ w1 ⟨rfl, hb⟩
    (have HB := Aside0.mk (below_step (w := w) blw hb); have hz1 := hb.size; obtain ⟨hcl1, hfr1, hlt1, _⟩ := bcell hb; (try simp only [sA, sC, sD] at hz1); (try simp only [sA, sC, sD] at hcl1 hfr1 hlt1); have HB1 := hR w1; clear hb)
    go_wp2_with fail
    go_ret
    exact ⟨rfl, blw⟩
  · intro hn
    have HB := hR w; go_enter Tryz.func17, Tryz.ntmps17
    go_wp2_with fail
    refine hn.mono ?_
    rintro _ w1 ⟨rfl, hb⟩
    (have HB := Aside0.mk (below_step (w := w) blw hb); have hz1 := hb.size; obtain ⟨hcl1, hfr1, hlt1, _⟩ := bcell hb; (try simp only [sA, sC, sD] at hz1); (try simp only [sA, sC, sD] at hcl1 hfr1 hlt1); have HB1 := hR w1; clear hb)
    go_wp2_with fail
    go_ret
    exact ⟨rfl, blw⟩
  · intro hn
    have HB := hR w; go_enter Tryz.func17, Tryz.ntmps17
    go_wp2_with fail
    refine hn.mono ?_
    rintro _ w1 ⟨rfl, hb⟩
    (have HB := Aside0.mk (below_step (w := w) blw hb); have hz1 := hb.size; obtain ⟨hcl1, hfr1, hlt1, _⟩ := bcell hb; (try simp only [sA, sC, sD] at hz1); (try simp only [sA, sC, sD] at hcl1 hfr1 hlt1); have HB1 := hR w1; clear hb)
    go_wp2_with fail
    go_ret
    exact ⟨rfl, blw⟩
  · intro hn
    have HB := hR w; go_enter Tryz.func17, Tryz.ntmps17
    go_wp2_with fail
    refine hn.mono ?_
    rintro _ w1 ⟨rfl, hb⟩
    (have HB := Aside0.mk (below_step (w := w) blw hb); have hz1 := hb.size; obtain ⟨hcl1, hfr1, hlt1, _⟩ := bcell hb; (try simp only [sA, sC, sD] at hz1); (try simp only [sA, sC, sD] at hcl1 hfr1 hlt1); have HB1 := hR w1; clear hb)
    go_wp2_with fail
    go_ret
    exact ⟨rfl, blw⟩
  · intro hn
    have HB := hR w; go_enter Tryz.func17, Tryz.ntmps17
    go_wp2_with fail
    refine hn.mono ?_
    rintro _ w1 ⟨rfl, hb⟩
    (have HB := Aside0.mk (below_step (w := w) blw hb); have hz1 := hb.size; obtain ⟨hcl1, hfr1, hlt1, _⟩ := bcell hb; (try simp only [sA, sC, sD] at hz1); (try simp only [sA, sC, sD] at hcl1 hfr1 hlt1); have HB1 := hR w1; clear hb)
    go_wp2_with fail
    go_ret
    exact ⟨rfl, blw⟩
  · intro hn
    by_cases hm : m = 1
    · subst hm
      have HB := hR w; go_enter Tryz.func17, Tryz.ntmps17
      go_wp2_with fail
      refine hn.mono ?_
      rintro _ w1 ⟨rfl, hb⟩
      (have HB := Aside0.mk (below_step (w := w) blw hb); have hz1 := hb.size; obtain ⟨hcl1, hfr1, hlt1, _⟩ := bcell hb; (try simp only [sA, sC, sD] at hz1); (try simp only [sA, sC, sD] at hcl1 hfr1 hlt1); have HB1 := hR w1; clear hb)
      go_wp2_with fail
      refine (ho _).mono ?_
      rintro _ w2 ⟨rfl, hb⟩
      (have HB := Aside0.mk (below_step (w := w) blw hb); have HB1 := Aside0.mk (below_step (w := w1) blw hb); have hz2 := hb.size; obtain ⟨hcl2, hfr2, hlt2, _⟩ := bcell hb; (try simp only [sA, sC, sD] at hz2); (try simp only [sA, sC, sD] at hcl2 hfr2 hlt2); have HB2 := hR w2; clear hb)
      go_wp2_with fail
      go_ret
      exact ⟨rfl, blw⟩
    · have hb0 : (m == 1) = false := beq_eq_false_iff_ne.2 hm
      have HB := hR w; go_enter Tryz.func17, Tryz.ntmps17
      go_wp2_with fail
      refine hn.mono ?_
      rintro _ w1 ⟨rfl, hb⟩
      (have HB := Aside0.mk (below_step (w := w) blw hb); have hz1 := hb.size; obtain ⟨hcl1, hfr1, hlt1, _⟩ := bcell hb; (try simp only [sA, sC, sD] at hz1); (try simp only [sA, sC, sD] at hcl1 hfr1 hlt1); have HB1 := hR w1; clear hb)
      go_wp2_with fail
      refine (ho _).mono ?_
      rintro _ w2 ⟨rfl, hb⟩
      (have HB := Aside0.mk (below_step (w := w) blw hb); have HB1 := Aside0.mk (below_step (w := w1) blw hb); have hz2 := hb.size; obtain ⟨hcl2, hfr2, hlt2, _⟩ := bcell hb; (try simp only [sA, sC, sD] at hz2); (try simp only [sA, sC, sD] at hcl2 hfr2 hlt2); have HB2 := hR w2; clear hb)
      go_wp2_with fail
      go_ret
      exact ⟨ret_of (by unfold chg; rw [hb0]; rfl), blw⟩
  · intro hn
    by_cases hm : m = 1
    · subst hm
      have HB := hR w; go_enter Tryz.func17, Tryz.ntmps17
      go_wp2_with fail
      refine hn.mono ?_
      rintro _ w1 ⟨rfl, hb⟩
      (have HB := Aside0.mk (below_step (w := w) blw hb); have hz1 := hb.size; obtain ⟨hcl1, hfr1, hlt1, _⟩ := bcell hb; (try simp only [sA, sC, sD] at hz1); (try simp only [sA, sC, sD] at hcl1 hfr1 hlt1); have HB1 := hR w1; clear hb)
      go_wp2_with fail
      refine (ho _).mono ?_
      rintro _ w2 ⟨rfl, hb⟩
      (have HB := Aside0.mk (below_step (w := w) blw hb); have HB1 := Aside0.mk (below_step (w := w1) blw hb); have hz2 := hb.size; obtain ⟨hcl2, hfr2, hlt2, _⟩ := bcell hb; (try simp only [sA, sC, sD] at hz2); (try simp only [sA, sC, sD] at hcl2 hfr2 hlt2); have HB2 := hR w2; clear hb)
      go_wp2_with fail
      go_ret
      exact ⟨rfl, blw⟩
    · have hb0 : (m == 1) = false := beq_eq_false_iff_ne.2 hm
      have HB := hR w; go_enter Tryz.func17, Tryz.ntmps17
      go_wp2_with fail
      refine hn.mono ?_
      rintro _ w1 ⟨rfl, hb⟩
      (have HB := Aside0.mk (below_step (w := w) blw hb); have hz1 := hb.size; obtain ⟨hcl1, hfr1, hlt1, _⟩ := bcell hb; (try simp only [sA, sC, sD] at hz1); (try simp only [sA, sC, sD] at hcl1 hfr1 hlt1); have HB1 := hR w1; clear hb)
      go_wp2_with fail
      refine (ho _).mono ?_
      rintro _ w2 ⟨rfl, hb⟩
      (have HB := Aside0.mk (below_step (w := w) blw hb); have HB1 := Aside0.mk (below_step (w := w1) blw hb); have hz2 := hb.size; obtain ⟨hcl2, hfr2, hlt2, _⟩ := bcell hb; (try simp only [sA, sC, sD] at hz2); (try simp only [sA, sC, sD] at hcl2 hfr2 hlt2); have HB2 := hR w2; clear hb)
      go_wp2_with fail
      go_ret
      exact ⟨ret_of (by unfold chg; rw [hb0]; rfl), blw⟩
  · intro hn
    by_cases hm : m = 1
    · subst hm
      have HB := hR w; go_enter Tryz.func17, Tryz.ntmps17
      go_wp2_with fail
      refine hn.mono ?_
      rintro _ w1 ⟨rfl, hb⟩
      (have HB := Aside0.mk (below_step (w := w) blw hb); have hz1 := hb.size; obtain ⟨hcl1, hfr1, hlt1, _⟩ := bcell hb; (try simp only [sA, sC, sD] at hz1); (try simp only [sA, sC, sD] at hcl1 hfr1 hlt1); have HB1 := hR w1; clear hb)
      go_wp2_with fail
      refine (ho _).mono ?_
      rintro _ w2 ⟨rfl, hb⟩
      (have HB := Aside0.mk (below_step (w := w) blw hb); have HB1 := Aside0.mk (below_step (w := w1) blw hb); have hz2 := hb.size; obtain ⟨hcl2, hfr2, hlt2, _⟩ := bcell hb; (try simp only [sA, sC, sD] at hz2); (try simp only [sA, sC, sD] at hcl2 hfr2 hlt2); have HB2 := hR w2; clear hb)
      go_wp2_with fail
      go_ret
      exact ⟨rfl, blw⟩
    · have hb0 : (m == 1) = false := beq_eq_false_iff_ne.2 hm
      have HB := hR w; go_enter Tryz.func17, Tryz.ntmps17
      go_wp2_with fail
      refine hn.mono ?_
      rintro _ w1 ⟨rfl, hb⟩
      (have HB := Aside0.mk (below_step (w := w) blw hb); have hz1 := hb.size; obtain ⟨hcl1, hfr1, hlt1, _⟩ := bcell hb; (try simp only [sA, sC, sD] at hz1); (try simp only [sA, sC, sD] at hcl1 hfr1 hlt1); have HB1 := hR w1; clear hb)
      go_wp2_with fail
      refine (ho _).mono ?_
      rintro _ w2 ⟨rfl, hb⟩
      (have HB := Aside0.mk (below_step (w := w) blw hb); have HB1 := Aside0.mk (below_step (w := w1) blw hb); have hz2 := hb.size; obtain ⟨hcl2, hfr2, hlt2, _⟩ := bcell hb; (try simp only [sA, sC, sD] at hz2); (try simp only [sA, sC, sD] at hcl2 hfr2 hlt2); have HB2 := hR w2; clear hb)
      go_wp2_with fail
      go_ret
      exact ⟨ret_of (by unfold chg; rw [hb0]; rfl), blw⟩
  · intro hn
    by_cases hm : m = 1
    · subst hm
      have HB := hR w; go_enter Tryz.func17, Tryz.ntmps17
      go_wp2_with fail
      refine hn.mono ?_
      rintro _ w1 ⟨rfl, hb⟩
      (have HB := Aside0.mk (below_step (w := w) blw hb); have hz1 := hb.size; obtain ⟨hcl1, hfr1, hlt1, _⟩ := bcell hb; (try simp only [sA, sC, sD] at hz1); (try simp only [sA, sC, sD] at hcl1 hfr1 hlt1); have HB1 := hR w1; clear hb)
      go_wp2_with fail
      refine (ho _).mono ?_
      rintro _ w2 ⟨rfl, hb⟩
      (have HB := Aside0.mk (below_step (w := w) blw hb); have HB1 := Aside0.mk (below_step (w := w1) blw hb); have hz2 := hb.size; obtain ⟨hcl2, hfr2, hlt2, _⟩ := bcell hb; (try simp only [sA, sC, sD] at hz2); (try simp only [sA, sC, sD] at hcl2 hfr2 hlt2); have HB2 := hR w2; clear hb)
      go_wp2_with fail
      go_ret
      exact ⟨rfl, blw⟩
    · have hb0 : (m == 1) = false := beq_eq_false_iff_ne.2 hm
      have HB := hR w; go_enter Tryz.func17, Tryz.ntmps17
      go_wp2_with fail
      refine hn.mono ?_
      rintro _ w1 ⟨rfl, hb⟩
      (have HB := Aside0.mk (below_step (w := w) blw hb); have hz1 := hb.size; obtain ⟨hcl1, hfr1, hlt1, _⟩ := bcell hb; (try simp only [sA, sC, sD] at hz1); (try simp only [sA, sC, sD] at hcl1 hfr1 hlt1); have HB1 := hR w1; clear hb)
      go_wp2_with fail
      refine (ho _).mono ?_
      rintro _ w2 ⟨rfl, hb⟩
      (have HB := Aside0.mk (below_step (w := w) blw hb); have HB1 := Aside0.mk (below_step (w := w1) blw hb); have hz2 := hb.size; obtain ⟨hcl2, hfr2, hlt2, _⟩ := bcell hb; (try simp only [sA, sC, sD] at hz2); (try simp only [sA, sC, sD] at hcl2 hfr2 hlt2); have HB2 := hR w2; clear hb)
      go_wp2_with fail
      go_ret
      exact ⟨ret_of (by unfold chg; rw [hb0]; rfl), blw⟩
  · intro hn
    have HB := hR w; go_enter Tryz.func17, Tryz.ntmps17
    go_wp2_with fail
    refine hn.mono ?_
    rintro _ w1 ⟨rfl, hb⟩
    (have HB := Aside0.mk (below_step (w := w) blw hb); have hz1 := hb.size; obtain ⟨hcl1, hfr1, hlt1, _⟩ := bcell hb; (try simp only [sA, sC, sD] at hz1); (try simp only [sA, sC, sD] at hcl1 hfr1 hlt1); have HB1 := hR w1; clear hb)
    go_wp2_with fail
    go_ret
    exact ⟨rfl, blw⟩
  · intro hn
    have HB := hR w; go_enter Tryz.func17, Tryz.ntmps17
    go_wp2_with fail
    refine hn.mono ?_
    rintro _ w1 ⟨rfl, hb⟩
    (have HB := Aside0.mk (below_step (w := w) blw hb); have hz1 := hb.size; obtain ⟨hcl1, hfr1, hlt1, _⟩ := bcell hb; (try simp only [sA, sC, sD] at hz1); (try simp only [sA, sC, sD] at hcl1 hfr1 hlt1); have HB1 := hR w1; clear hb)
    go_wp2_with fail
    go_ret
    exact ⟨rfl, blw⟩
  · intro hn
    have HB := hR w; go_enter Tryz.func17, Tryz.ntmps17
    go_wp2_with fail
    refine hn.mono ?_
    rintro _ w1 ⟨rfl, hb⟩
    (have HB := Aside0.mk (below_step (w := w) blw hb); have hz1 := hb.size; obtain ⟨hcl1, hfr1, hlt1, _⟩ := bcell hb; (try simp only [sA, sC, sD] at hz1); (try simp only [sA, sC, sD] at hcl1 hfr1 hlt1); have HB1 := hR w1; clear hb)
    go_wp2_with fail
    go_ret
    exact ⟨rfl, blw⟩
  · intro hn
    have HB := hR w; go_enter Tryz.func17, Tryz.ntmps17
    go_wp2_with fail
    refine hn.mono ?_
    rintro _ w1 ⟨rfl, hb⟩
    (have HB := Aside0.mk (below_step (w := w) blw hb); have hz1 := hb.size; obtain ⟨hcl1, hfr1, hlt1, _⟩ := bcell hb; (try simp only [sA, sC, sD] at hz1); (try simp only [sA, sC, sD] at hcl1 hfr1 hlt1); have HB1 := hR w1; clear hb)
    go_wp2_with fail
    go_ret
    exact ⟨rfl, blw⟩
  · intro hn
    have HB := hR w; go_enter Tryz.func17, Tryz.ntmps17
    go_wp2_with fail
    refine hn.mono ?_
    rintro _ w1 ⟨rfl, hb⟩
    (have HB := Aside0.mk (below_step (w := w) blw hb); have hz1 := hb.size; obtain ⟨hcl1, hfr1, hlt1, _⟩ := bcell hb; (try simp only [sA, sC, sD] at hz1); (try simp only [sA, sC, sD] at hcl1 hfr1 hlt1); have HB1 := hR w1; clear hb)
    go_wp2_with fail
    go_ret
    exact ⟨rfl, blw⟩
  · intro hn
    have HB := hR w; go_enter Tryz.func17, Tryz.ntmps17
    go_wp2_with fail
    refine hn.mono ?_
    rintro _ w1 ⟨rfl, hb⟩
    (have HB := Aside0.mk (below_step (w := w) blw hb); have hz1 := hb.size; obtain ⟨hcl1, hfr1, hlt1, _⟩ := bcell hb; (try simp only [sA, sC, sD] at hz1); (try simp only [sA, sC, sD] at hcl1 hfr1 hlt1); have HB1 := hR w1; clear hb)
    go_wp2_with fail
    go_ret
    exact ⟨rfl, blw⟩
  · intro hn
    have HB := hR w; go_enter Tryz.func17, Tryz.ntmps17
    go_wp2_with fail
    refine hn.mono ?_
    rintro _ w1 ⟨rfl, hb⟩
    (have HB := Aside0.mk (below_step (w := w) blw hb); have hz1 := hb.size; obtain ⟨hcl1, hfr1, hlt1, _⟩ := bcell hb; (try simp only [sA, sC, sD] at hz1); (try simp only [sA, sC, sD] at hcl1 hfr1 hlt1); have HB1 := hR w1; clear hb)
    go_wp2_with fail
    go_ret
    exact ⟨rfl, blw⟩
  · intro hn
    have HB := hR w; go_enter Tryz.func17, Tryz.ntmps17
    go_wp2_with fail
    refine hn.mono ?_
    rintro _ w1 ⟨rfl, hb⟩
    (have HB := Aside0.mk (below_step (w := w) blw hb); have hz1 := hb.size; obtain ⟨hcl1, hfr1, hlt1, _⟩ := bcell hb; (try simp only [sA, sC, sD] at hz1); (try simp only [sA, sC, sD] at hcl1 hfr1 hlt1); have HB1 := hR w1; clear hb)
    go_wp2_with fail
    go_ret
    exact ⟨rfl, blw⟩
  · intro hn
    have HB := hR w; go_enter Tryz.func17, Tryz.ntmps17
    go_wp2_with fail
    refine hn.mono ?_
    rintro _ w1 ⟨rfl, hb⟩
    (have HB := Aside0.mk (below_step (w := w) blw hb); have hz1 := hb.size; obtain ⟨hcl1, hfr1, hlt1, _⟩ := bcell hb; (try simp only [sA, sC, sD] at hz1); (try simp only [sA, sC, sD] at hcl1 hfr1 hlt1); have HB1 := hR w1; clear hb)
    go_wp2_with fail
    go_ret
    exact ⟨rfl, blw⟩
  · intro hn
    have HB := hR w; go_enter Tryz.func17, Tryz.ntmps17
    go_wp2_with fail
    refine hn.mono ?_
    rintro _ w1 ⟨rfl, hb⟩
    (have HB := Aside0.mk (below_step (w := w) blw hb); have hz1 := hb.size; obtain ⟨hcl1, hfr1, hlt1, _⟩ := bcell hb; (try simp only [sA, sC, sD] at hz1); (try simp only [sA, sC, sD] at hcl1 hfr1 hlt1); have HB1 := hR w1; clear hb)
    go_wp2_with fail
    go_ret
    exact ⟨rfl, blw⟩
  · intro hn
    have HB := hR w; go_enter Tryz.func17, Tryz.ntmps17
    go_wp2_with fail
    refine hn.mono ?_
    rintro _ w1 ⟨rfl, hb⟩
    (have HB := Aside0.mk (below_step (w := w) blw hb); have hz1 := hb.size; obtain ⟨hcl1, hfr1, hlt1, _⟩ := bcell hb; (try simp only [sA, sC, sD] at hz1); (try simp only [sA, sC, sD] at hcl1 hfr1 hlt1); have HB1 := hR w1; clear hb)
    go_wp2_with fail
    go_ret
    exact ⟨rfl, blw⟩
  · intro hn
    have HB := hR w; go_enter Tryz.func17, Tryz.ntmps17
    go_wp2_with fail
    refine hn.mono ?_
    rintro _ w1 ⟨rfl, hb⟩
    (have HB := Aside0.mk (below_step (w := w) blw hb); have hz1 := hb.size; obtain ⟨hcl1, hfr1, hlt1, _⟩ := bcell hb; (try simp only [sA, sC, sD] at hz1); (try simp only [sA, sC, sD] at hcl1 hfr1 hlt1); have HB1 := hR w1; clear hb)
    go_wp2_with fail
    go_ret
    exact ⟨rfl, blw⟩
  · intro hn
    have HB := hR w; go_enter Tryz.func17, Tryz.ntmps17
    go_wp2_with fail
    refine hn.mono ?_
    rintro _ w1 ⟨rfl, hb⟩
    (have HB := Aside0.mk (below_step (w := w) blw hb); have hz1 := hb.size; obtain ⟨hcl1, hfr1, hlt1, _⟩ := bcell hb; (try simp only [sA, sC, sD] at hz1); (try simp only [sA, sC, sD] at hcl1 hfr1 hlt1); have HB1 := hR w1; clear hb)
    go_wp2_with fail
    go_ret
    exact ⟨rfl, blw⟩
  · intro hn
    have HB := hR w; go_enter Tryz.func17, Tryz.ntmps17
    go_wp2_with fail
    refine hn.mono ?_
    rintro _ w1 ⟨rfl, hb⟩
    (have HB := Aside0.mk (below_step (w := w) blw hb); have hz1 := hb.size; obtain ⟨hcl1, hfr1, hlt1, _⟩ := bcell hb; (try simp only [sA, sC, sD] at hz1); (try simp only [sA, sC, sD] at hcl1 hfr1 hlt1); have HB1 := hR w1; clear hb)
    go_wp2_with fail
    go_ret
    exact ⟨rfl, blw⟩
  · intro hn
    have HB := hR w; go_enter Tryz.func17, Tryz.ntmps17
    go_wp2_with fail
    refine hn.mono ?_
    rintro _ w1 ⟨rfl, hb⟩
    (have HB := Aside0.mk (below_step (w := w) blw hb); have hz1 := hb.size; obtain ⟨hcl1, hfr1, hlt1, _⟩ := bcell hb; (try simp only [sA, sC, sD] at hz1); (try simp only [sA, sC, sD] at hcl1 hfr1 hlt1); have HB1 := hR w1; clear hb)
    go_wp2_with fail
    go_ret
    exact ⟨rfl, blw⟩
  · intro q0 q1 q2 q3 q4 q5 q6 q7 q8 q9 q10 q11 q12 q13 q14 q15 q16 q17 q18 q19 q20 q21 q22 q23 q24 q25 q26 q27 q28 q29 q30 q31 q32 q33 q34 q35 q36 q37 q38 q39 q40 q41 q42 hn
    rw [chg_none x m q0 q1 q2 q3 q4 q5 q6 q7 q8 q9 q10 q11 q12 q13 q14 q15 q16 q17 q18 q19 q20 q21 q22 q23 q24 q25 q26 q27 q28 q29 q30 q31 q32 q33 q34 q35 q36 q37 q38 q39 q40 q41 q42]
    have HB := hR w; go_enter Tryz.func17, Tryz.ntmps17
    go_wp2_with fail
    refine hn.mono ?_
    rintro _ w1 ⟨rfl, hb⟩
    (have HB := Aside0.mk (below_step (w := w) blw hb); have hz1 := hb.size; obtain ⟨hcl1, hfr1, hlt1, _⟩ := bcell hb; (try simp only [sA, sC, sD] at hz1); (try simp only [sA, sC, sD] at hcl1 hfr1 hlt1); have HB1 := hR w1; clear hb)
    go_wp2_with fail
    go_ret
    exact ⟨rfl, blw⟩
end Go.Proofs.YtghmeghbekkanaaGreatDoor
