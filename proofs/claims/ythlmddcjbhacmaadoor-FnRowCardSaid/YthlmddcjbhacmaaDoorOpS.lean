/- The reference's operations by their bytes: names, modes, kinds, sizes. -/
import Derived.Test.YthlmddcjbhacmaaDoorOpB
import Derived.Test.YthlmddcjbhacmaaDoorPack
set_option linter.unusedVariables false
set_option linter.unusedSimpArgs false
namespace Go.Proofs.YthlmddcjbhacmaaDoor
open Go.RowKit Go.Proofs.YthlmddcjbhacmaaDoorW.PrintWords
def rawS (code : Int) : ByteArray × Int := if code % 4 = 0 then opZero (code / 32) (code / 4 % 8) else if code % 4 = 1 then opOne (code / 32) (code / 4 % 8) else if code % 4 = 2 then opTwo (code / 32) (code / 4 % 8) else (⟨#[]⟩, 0)
def nmS (code : Int) : List UInt8 := (rawS code).1.data.toList
def mdS (code : Int) : Int := if nmS code == [] then -1 else (rawS code).2
theorem arr_eta (b : ByteArray) : (⟨b.data.toList.toArray⟩ : ByteArray) = b := by cases b; simp
set_option maxHeartbeats 1000000 in
theorem spec_l03Of (code : Int) (w : World) (h0 : 0 ≤ code) (h1 : code < 256) :
    Calls Tryd.prog 51 #[.int .u8 code] w fun e w' => e = .returned (.agg #[.string (rawS code).1, .int .i64 (rawS code).2]) ∧ Below w.heap.size w w' := by
  obtain ⟨row, hrow⟩ : ∃ row, code / 32 = row := ⟨_, rfl⟩
  obtain ⟨part, hpart⟩ : ∃ part, code / 4 % 8 = part := ⟨_, rfl⟩
  obtain ⟨side, hside⟩ : ∃ side, code % 4 = side := ⟨_, rfl⟩
  have r0 : 0 ≤ row := by omega
  have r1 : row < 8 := by omega
  have p0 : 0 ≤ part := by omega
  have p1 : part < 8 := by omega
  have hs : side = 0 ∨ side = 1 ∨ side = 2 ∨ side = 3 := by omega
  obtain ⟨x, m, hraw⟩ : ∃ x m, rawS code = (x, m) := ⟨_, _, rfl⟩
  rw [hraw]
  unfold rawS at hraw
  rw [hside, hrow, hpart] at hraw
  rcases hs with rfl | rfl | rfl | rfl
  · rw [if_pos rfl] at hraw
    have hz := fun W => spec_l03Zero row part W r0 r1 p0 p1
    rw [hraw] at hz
    clear hraw
    have hz := hz (w.alloc (.cells #[.string ⟨#[]⟩, .int .i64 0] 77))
    have HB := hR w; go_enter Tryd.func51, Tryd.ntmps51; go_wp2_with fail; refine hz.mono ?_; rintro _ w1 ⟨rfl, hb⟩; (have HB := Aside0.mk (below_step (w := w) blw hb); have hz1 := hb.size; obtain ⟨hcl1, hfr1, hlt1, _⟩ := bcell hb; (try simp only [sA, sC, sD] at hz1); (try simp only [sA, sC, sD] at hcl1 hfr1 hlt1); have hk1_0 : w.heap.size < w1.heap.size := (by omega); have HB1 := hR w1; clear hb); go_wp2_with fail; (refine bodyPost_ret (v := .agg #[.string x, .int .i64 m]) (by (simp only [results, Tryd.results51]; go_simp <;> (rfl))) rfl ?_); exact ⟨rfl, blw⟩
  · rw [if_neg (by decide), if_pos rfl] at hraw
    have hz := fun W => spec_l03One row part W r0 r1 p0 p1
    rw [hraw] at hz
    clear hraw
    have hz := hz (w.alloc (.cells #[.string ⟨#[]⟩, .int .i64 0] 77))
    have HB := hR w; go_enter Tryd.func51, Tryd.ntmps51; go_wp2_with fail; refine hz.mono ?_; rintro _ w1 ⟨rfl, hb⟩; (have HB := Aside0.mk (below_step (w := w) blw hb); have hz1 := hb.size; obtain ⟨hcl1, hfr1, hlt1, _⟩ := bcell hb; (try simp only [sA, sC, sD] at hz1); (try simp only [sA, sC, sD] at hcl1 hfr1 hlt1); have hk1_0 : w.heap.size < w1.heap.size := (by omega); have HB1 := hR w1; clear hb); go_wp2_with fail; (refine bodyPost_ret (v := .agg #[.string x, .int .i64 m]) (by (simp only [results, Tryd.results51]; go_simp <;> (rfl))) rfl ?_); exact ⟨rfl, blw⟩
  · rw [if_neg (by decide), if_neg (by decide), if_pos rfl] at hraw
    have hz := fun W => spec_l03Two row part W r0 r1 p0 p1
    rw [hraw] at hz
    clear hraw
    have hz := hz (w.alloc (.cells #[.string ⟨#[]⟩, .int .i64 0] 77))
    have HB := hR w; go_enter Tryd.func51, Tryd.ntmps51; go_wp2_with fail; refine hz.mono ?_; rintro _ w1 ⟨rfl, hb⟩; (have HB := Aside0.mk (below_step (w := w) blw hb); have hz1 := hb.size; obtain ⟨hcl1, hfr1, hlt1, _⟩ := bcell hb; (try simp only [sA, sC, sD] at hz1); (try simp only [sA, sC, sD] at hcl1 hfr1 hlt1); have hk1_0 : w.heap.size < w1.heap.size := (by omega); have HB1 := hR w1; clear hb); go_wp2_with fail; (refine bodyPost_ret (v := .agg #[.string x, .int .i64 m]) (by (simp only [results, Tryd.results51]; go_simp <;> (rfl))) rfl ?_); exact ⟨rfl, blw⟩
  · rw [if_neg (by decide), if_neg (by decide), if_neg (by decide)] at hraw
    obtain ⟨rfl, rfl⟩ := Prod.mk.inj hraw
    clear hraw
    have HB := hR w; go_enter Tryd.func51, Tryd.ntmps51
    go_wp2_with fail
    (refine bodyPost_ret (v := .agg #[.string ⟨#[]⟩, .int .i64 0]) (by (simp only [results, Tryd.results51]; go_simp <;> (rfl))) rfl ?_)
    exact ⟨rfl, blw⟩
@[go_sem] theorem run_field_op0 (x : ByteArray) (m : Int) (w : World) : Sem.run Tryd.prog (Instr.field 77 (.agg #[.string x, .int .i64 m]) 0) w = .ok (.string x) w := by kernel_rfl
@[go_sem] theorem run_field_op1 (x : ByteArray) (m : Int) (w : World) : Sem.run Tryd.prog (Instr.field 77 (.agg #[.string x, .int .i64 m]) 1) w = .ok (.int .i64 m) w := by kernel_rfl
theorem spec_NameOf (code : Int) (w : World) (h0 : 0 ≤ code) (h1 : code < 256) :
    Calls Tryd.prog 22 #[.int .u8 code] w fun e w' => e = .returned (.string ⟨(nmS code).toArray⟩) ∧ Below w.heap.size w w' := by
  unfold nmS
  rw [arr_eta]
  have HB := hR w; go_enter Tryd.func22, Tryd.ntmps22
  go_wp2_with fail
  refine (spec_l03Of code w h0 h1).mono ?_
  rintro _ w1 ⟨rfl, hb⟩
  (have HB := Aside0.mk (below_step (w := w) blw hb); have hz1 := hb.size; obtain ⟨hcl1, hfr1, hlt1, _⟩ := bcell hb; (try simp only [sA, sC, sD] at hz1); (try simp only [sA, sC, sD] at hcl1 hfr1 hlt1); have HB1 := hR w1; clear hb)
  go_wp2_with fail
  go_ret
  exact ⟨rfl, blw⟩
theorem spec_ModeOf (code : Int) (w : World) (h0 : 0 ≤ code) (h1 : code < 256) :
    Calls Tryd.prog 50 #[.int .u8 code] w fun e w' => e = .returned (.int .i64 (mdS code)) ∧ Below w.heap.size w w' := by
  have hn := spec_NameOf code w h0 h1
  have ho := fun W => spec_l03Of code W h0 h1
  unfold mdS
  generalize nmS code = x at hn ⊢
  by_cases hx : x = []
  · subst hx
    rw [show (([] : List UInt8) == []) = true from rfl, if_pos rfl]
    have HB := hR w; go_enter Tryd.func50, Tryd.ntmps50
    go_wp2_with fail
    refine hn.mono ?_
    rintro _ w1 ⟨rfl, hb⟩
    (have HB := Aside0.mk (below_step (w := w) blw hb); have hz1 := hb.size; obtain ⟨hcl1, hfr1, hlt1, _⟩ := bcell hb; (try simp only [sA, sC, sD] at hz1); (try simp only [sA, sC, sD] at hcl1 hfr1 hlt1); have HB1 := hR w1; clear hb)
    go_wp2_with fail
    go_ret
    exact ⟨rfl, blw⟩
  · have hx1 : (x == []) = false := beq_eq_false_iff_ne.2 hx
    have hx2 : x.isEmpty = false := by cases x with | nil => exact absurd rfl hx | cons a t => rfl
    rw [hx1, if_neg (by decide)]
    have HB := hR w; go_enter Tryd.func50, Tryd.ntmps50
    go_wp2_with fail
    refine hn.mono ?_
    rintro _ w1 ⟨rfl, hb⟩
    (have HB := Aside0.mk (below_step (w := w) blw hb); have hz1 := hb.size; obtain ⟨hcl1, hfr1, hlt1, _⟩ := bcell hb; (try simp only [sA, sC, sD] at hz1); (try simp only [sA, sC, sD] at hcl1 hfr1 hlt1); have HB1 := hR w1; clear hb)
    go_wp2_with fail
    refine (ho _).mono ?_
    rintro _ w2 ⟨rfl, hb⟩
    (have HB := Aside0.mk (below_step (w := w) blw hb); have HB1 := Aside0.mk (below_step (w := w1) blw hb); have hz2 := hb.size; obtain ⟨hcl2, hfr2, hlt2, _⟩ := bcell hb; (try simp only [sA, sC, sD] at hz2); (try simp only [sA, sC, sD] at hcl2 hfr2 hlt2); have HB2 := hR w2; clear hb)
    go_wp2_with fail
    go_ret
    exact ⟨rfl, blw⟩
def kindM (x : List UInt8) (m : Int) : Int :=
  if x == [] then 0 else if x == [74, 77, 80] then 6 else if x == [74, 83, 82] then 7 else if x == [82, 84, 83] then 8 else if x == [82, 84, 73] then 9 else if x == [66, 82, 75] then 10 else if x == [80, 72, 65] then 11 else if x == [80, 72, 80] then 11 else if x == [80, 76, 65] then 12 else if x == [80, 76, 80] then 12 else if x == [83, 84, 65] then 3 else if x == [83, 84, 88] then 3 else if x == [83, 84, 89] then 3 else if m == 12 then 5 else if m == 0 then 1 else if m == 1 then 1 else if x == [65, 83, 76] then 4 else if x == [76, 83, 82] then 4 else if x == [82, 79, 76] then 4 else if x == [82, 79, 82] then 4 else if x == [73, 78, 67] then 4 else if x == [68, 69, 67] then 4 else 2
def kindS (code : Int) : Int := kindM (nmS code) (mdS code)
end Go.Proofs.YthlmddcjbhacmaaDoor
