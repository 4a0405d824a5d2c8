/- The program's table of operations by its bytes: names, modes, kinds. -/
import Derived.Test.YthlmddcjbhacmaaDoorOpJ
import Derived.Deep.RegionHeld3
set_option linter.unusedVariables false
set_option linter.unusedSimpArgs false
namespace Go.Proofs.YthlmddcjbhacmaaDoor
open Go.RowKit Go.Proofs.YthlmddcjbhacmaaDoorW.PrintWords
def rawL (code : Int) : List UInt8 × Int := if code % 4 = 0 then zI (code / 32) (code / 4 % 8) else if code % 4 = 1 then oI (code / 32) (code / 4 % 8) else if code % 4 = 2 then tI (code / 32) (code / 4 % 8) else ([], -1)
def nmL (code : Int) : List UInt8 := (rawL code).1
def mdI (code : Int) : Int := if (rawL code).1 = [] then -1 else (rawL code).2
set_option maxHeartbeats 1000000 in
theorem impl_operation (code : Int) (w : World) (h0 : 0 ≤ code) (h1 : code < 256) (he : Env w) :
    Calls Tryd.prog 56 #[.int .u8 code] w fun e w' => e = .returned (.tuple #[.string ⟨(nmL code).toArray⟩, .int .i64 (mdI code)]) ∧ Below w.heap.size w w' := by
  have m7 : bits .and .u8 (code / 4) 7 = code / 4 % 8 := u8_mask 3 (by decide) (code / 4) (by omega) (by omega)
  have m3 : bits .and .u8 code 3 = code % 4 := u8_mask 2 (by decide) code h0 h1
  obtain ⟨row, hrow⟩ : ∃ row, code / 32 = row := ⟨_, rfl⟩
  obtain ⟨part, hpart⟩ : ∃ part, code / 4 % 8 = part := ⟨_, rfl⟩
  obtain ⟨side, hside⟩ : ∃ side, code % 4 = side := ⟨_, rfl⟩
  have r0 : 0 ≤ row := by omega
  have r1 : row < 8 := by omega
  have p0 : 0 ≤ part := by omega
  have p1 : part < 8 := by omega
  have hs : side = 0 ∨ side = 1 ∨ side = 2 ∨ side = 3 := by omega
  obtain ⟨x, m, hraw⟩ : ∃ x m, rawL code = (x, m) := ⟨_, _, rfl⟩
  unfold nmL mdI
  rw [hraw]
  unfold rawL at hraw
  rw [hside, hrow, hpart] at hraw
  rw [hpart] at m7
  rw [hside] at m3
  rcases hs with rfl | rfl | rfl | rfl
  · rw [if_pos rfl] at hraw
    have hz := impl_sideZero row part w r0 r1 p0 p1 he
    rw [hraw] at hz
    clear hraw
    by_cases hx : x = []
    · subst hx
      rw [if_pos rfl]
      have HB := hR w; go_enter Tryd.func56, Tryd.ntmps56
      go_wp2_with fail
      refine hz.mono ?_
      rintro _ w1 ⟨rfl, hb⟩
      (have HB := Aside0.mk (below_step (w := w) blw hb); have hz1 := hb.size; obtain ⟨hcl1, hfr1, hlt1, _⟩ := bcell hb; (try simp only [sA, sC, sD] at hz1); (try simp only [sA, sC, sD] at hcl1 hfr1 hlt1); have HB1 := hR w1; clear hb)
      go_wp2_with fail
      go_ret2
      exact ⟨rfl, blw⟩
    · rw [if_neg hx]
      have hx1 : (x == []) = false := beq_eq_false_iff_ne.2 hx; have hx2 : x.isEmpty = false := (by cases x with | nil => exact absurd rfl hx | cons a t => rfl)
      have HB := hR w; go_enter Tryd.func56, Tryd.ntmps56
      go_wp2_with fail
      refine hz.mono ?_
      rintro _ w1 ⟨rfl, hb⟩
      (have HB := Aside0.mk (below_step (w := w) blw hb); have hz1 := hb.size; obtain ⟨hcl1, hfr1, hlt1, _⟩ := bcell hb; (try simp only [sA, sC, sD] at hz1); (try simp only [sA, sC, sD] at hcl1 hfr1 hlt1); have HB1 := hR w1; clear hb)
      go_wp2_with fail
      go_ret2
      exact ⟨rfl, blw⟩
  · rw [if_neg (by decide), if_pos rfl] at hraw
    have hw := word_S1 row r0 r1 w he
    have hm : ∀ h : part.toNat < ([.int .i64 10, .int .i64 3, .int .i64 2, .int .i64 6, .int .i64 11, .int .i64 4, .int .i64 8, .int .i64 7] : List Value).length, ([.int .i64 10, .int .i64 3, .int .i64 2, .int .i64 6, .int .i64 11, .int .i64 4, .int .i64 8, .int .i64 7] : List Value)[part.toNat]'h = .int .i64 (modeAt modes1 part) := mode_at modes1 part
    have hr8 : row = 0 ∨ row = 1 ∨ row = 2 ∨ row = 3 ∨ row = 4 ∨ row = 5 ∨ row = 6 ∨ row = 7 := by omega
    have hp8 : part = 0 ∨ part = 1 ∨ part = 2 ∨ part = 3 ∨ part = 4 ∨ part = 5 ∨ part = 6 ∨ part = 7 := by omega
    by_cases q : row = 4 ∧ part = 2
    · obtain ⟨rfl, rfl⟩ := q
      obtain ⟨rfl, rfl⟩ := Prod.mk.inj (show (([], 2) : List UInt8 × Int) = (x, m) from hraw)
      rw [show wordAt LS1 4 = [83, 84, 65] from rfl] at hw
      rw [if_pos rfl]
      clear hm hraw hr8 hp8
      have HB := hR w; go_enter Tryd.func56, Tryd.ntmps56
      go_wp2_with fail
      refine hw.mono ?_
      rintro _ w1 ⟨rfl, hb⟩
      (have HB := Aside0.mk (below_step (w := w) blw hb); have hz1 := hb.size; obtain ⟨hcl1, hfr1, hlt1, _⟩ := bcell hb; (try simp only [sA, sC, sD] at hz1); (try simp only [sA, sC, sD] at hcl1 hfr1 hlt1); have HB1 := hR w1; clear hb)
      go_wp2_with fail
      go_ret2
      exact ⟨rfl, blw⟩
    · have ho : oI row part = (wordAt LS1 row, modeAt modes1 part) := by
        rcases hr8 with rfl | rfl | rfl | rfl | rfl | rfl | rfl | rfl <;> rcases hp8 with rfl | rfl | rfl | rfl | rfl | rfl | rfl | rfl <;> first | rfl | exact absurd ⟨rfl, rfl⟩ q
      obtain ⟨rfl, rfl⟩ := Prod.mk.inj (ho.symm.trans hraw)
      have hx : ¬ wordAt LS1 row = [] := by rcases hr8 with rfl | rfl | rfl | rfl | rfl | rfl | rfl | rfl <;> decide
      by_cases q4 : row = 4
      · subst q4
        have hq : (modeAt modes1 part == 2) = false := by
          rcases hp8 with rfl | rfl | rfl | rfl | rfl | rfl | rfl | rfl <;> first | rfl | exact absurd ⟨rfl, rfl⟩ q
        rw [if_neg hx]
        rw [show wordAt LS1 4 = [83, 84, 65] from rfl] at hw ⊢
        clear hraw hr8 hp8 ho hx q
        generalize modeAt modes1 part = md at hm hq ⊢
        have HB := hR w; go_enter Tryd.func56, Tryd.ntmps56
        go_wp2_with fail
        refine hw.mono ?_
        rintro _ w1 ⟨rfl, hb⟩
        (have HB := Aside0.mk (below_step (w := w) blw hb); have hz1 := hb.size; obtain ⟨hcl1, hfr1, hlt1, _⟩ := bcell hb; (try simp only [sA, sC, sD] at hz1); (try simp only [sA, sC, sD] at hcl1 hfr1 hlt1); have HB1 := hR w1; clear hb)
        go_wp2_with fail
        go_ret2
        exact ⟨rfl, blw⟩
      · have hq : (wordAt LS1 row == [83, 84, 65]) = false := by
          rcases hr8 with rfl | rfl | rfl | rfl | rfl | rfl | rfl | rfl <;> first | rfl | exact absurd rfl q4
        rw [if_neg hx]
        clear hraw hr8 hp8 ho q
        generalize modeAt modes1 part = md at hm ⊢
        generalize wordAt LS1 row = x at hw hq hx ⊢
        have hx1 : (x == []) = false := beq_eq_false_iff_ne.2 hx; have hx2 : x.isEmpty = false := (by cases x with | nil => exact absurd rfl hx | cons a t => rfl)
        have HB := hR w; go_enter Tryd.func56, Tryd.ntmps56
        go_wp2_with fail
        refine hw.mono ?_
        rintro _ w1 ⟨rfl, hb⟩
        (have HB := Aside0.mk (below_step (w := w) blw hb); have hz1 := hb.size; obtain ⟨hcl1, hfr1, hlt1, _⟩ := bcell hb; (try simp only [sA, sC, sD] at hz1); (try simp only [sA, sC, sD] at hcl1 hfr1 hlt1); have HB1 := hR w1; clear hb)
        go_wp2_with fail
        go_ret2
        exact ⟨rfl, blw⟩
  · rw [if_neg (by decide), if_neg (by decide), if_pos rfl] at hraw
    have hz := impl_sideTwo row part w r0 r1 p0 p1 he
    rw [hraw] at hz
    clear hraw
    by_cases hx : x = []
    · subst hx
      rw [if_pos rfl]
      have HB := hR w; go_enter Tryd.func56, Tryd.ntmps56
      go_wp2_with fail
      refine hz.mono ?_
      rintro _ w1 ⟨rfl, hb⟩
      (have HB := Aside0.mk (below_step (w := w) blw hb); have hz1 := hb.size; obtain ⟨hcl1, hfr1, hlt1, _⟩ := bcell hb; (try simp only [sA, sC, sD] at hz1); (try simp only [sA, sC, sD] at hcl1 hfr1 hlt1); have HB1 := hR w1; clear hb)
      go_wp2_with fail
      go_ret2
      exact ⟨rfl, blw⟩
    · rw [if_neg hx]
      have hx1 : (x == []) = false := beq_eq_false_iff_ne.2 hx; have hx2 : x.isEmpty = false := (by cases x with | nil => exact absurd rfl hx | cons a t => rfl)
      have HB := hR w; go_enter Tryd.func56, Tryd.ntmps56
      go_wp2_with fail
      refine hz.mono ?_
      rintro _ w1 ⟨rfl, hb⟩
      (have HB := Aside0.mk (below_step (w := w) blw hb); have hz1 := hb.size; obtain ⟨hcl1, hfr1, hlt1, _⟩ := bcell hb; (try simp only [sA, sC, sD] at hz1); (try simp only [sA, sC, sD] at hcl1 hfr1 hlt1); have HB1 := hR w1; clear hb)
      go_wp2_with fail
      go_ret2
      exact ⟨rfl, blw⟩
  · obtain ⟨rfl, rfl⟩ := Prod.mk.inj (show (([], -1) : List UInt8 × Int) = (x, m) from by rw [if_neg (by decide), if_neg (by decide), if_neg (by decide)] at hraw; exact hraw)
    rw [if_pos rfl]
    have HB := hR w; go_enter Tryd.func56, Tryd.ntmps56
    go_wp2
    go_ret2
    exact ⟨rfl, blw⟩
end Go.Proofs.YthlmddcjbhacmaaDoor
