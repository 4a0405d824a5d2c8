/- Whether an interrupt is asked for, by the program and by the reference. -/
import Derived.Test.YtoncmhfmkfeolaaDoorShot
import Derived.Deep.RegionHeld3
set_option linter.unusedVariables false
set_option linter.unusedSimpArgs false
namespace Go.Proofs.YtoncmhfmkfeolaaDoor
open Go.RowKit Go.Proofs.YtoncmhfmkfeolaaDoorW.PrintWords
theorem asked_take {E : List Evt} {k : Int} {n : Bool} {j : Nat} (hj : j < E.length) (z : Evt) : asked (E.take (j + 1)) k n = (asked (E.take j) k n || ((E.getD j z).a == k && (E.getD j z).n == n)) := by
  unfold asked
  rw [List.take_succ_eq_append_getElem hj, List.any_append, List.getD_eq_getElem?_getD, List.getElem?_eq_getElem hj]
  simp
theorem asked_more {E : List Evt} {k : Int} {n : Bool} {j : Nat} (h : asked (E.take j) k n = true) : asked E k n = true := by
  unfold asked at *
  rw [List.any_eq_true] at *
  obtain ⟨x, hx, hp⟩ := h
  exact ⟨x, List.mem_of_mem_take hx, hp⟩
set_option maxRecDepth 20000 in
set_option maxHeartbeats 1000000 in
theorem impl_Index (A : Option Addr) (c : Nat) (E : List Evt) (k : Int) (n : Bool) (w : World) (h : evK.C w A E.length E) (hl : E.length ≤ 1048576) :
    Calls Tryd.prog 27 #[.slice A E.length c, .agg #[.int .i64 k, .bool n]] w fun e w' => (∃ i : Int, e = .returned (.int .i64 i) ∧ (decide (0 ≤ i)) = asked E k n) ∧ Below w.heap.size w w' := by
  have HB := hR w; go_enter Tryd.func27, Tryd.ntmps27
  go_wp2
  go_loopw [8] (fun v8 wr => ∃ j : Nat, j ≤ E.length ∧ v8 = .int .i64 j ∧ asked (E.take j) k n = false ∧ Aside0 (Below w.heap.size w wr ∧ wr.cell? ⟨w.heap.size, 0, none⟩ = some (.int .i64 k) ∧ wr.cell? ⟨w.heap.size, 1, none⟩ = some (.bool n))) (fun v8 _ => E.length - (intOf v8).toNat)
  case atStart => exact ⟨0, Nat.zero_le _, rfl, rfl, ⟨blw, by simp, by simp⟩⟩
  case round =>
    obtain ⟨j, hj, rfl, hno, HX⟩ := hrel
    obtain ⟨HB, b0, b1⟩ := HX.out
    have HB := Aside0.mk HB
    clear HX
    by_cases hlt : j < E.length
    · obtain ⟨x, ex⟩ : ∃ x, E.getD j ⟨0, false⟩ = x := ⟨_, rfl⟩
      obtain ⟨ad, rfl, hx, hy⟩ := evt_at h j (by omega) (by omega) ⟨0, false⟩
      rw [Int.toNat_natCast, ex] at hx hy
      have P1 := (HB.out.cell (World.block_lt_of_cell? w _ hx)).trans hx
      have P2 := (HB.out.cell (World.block_lt_of_cell? w _ hy)).trans hy
      rw [add_next] at P2
      have q0 : (0 : Int) ≤ (j : Int) := by omega
      have q1 : (j : Int) < (E.length : Int) := by omega
      have ht := asked_take (k := k) (n := n) hlt ⟨0, false⟩
      rw [hno, ex, Bool.false_or] at ht
      have HT := Aside0.mk ht
      have HN := Aside0.mk hno
      clear hx hy ex h ht hno
      have HBr := Aside0.mk (Below.refl wr.heap.size wr)
      by_cases ha : k = x.a
      · subst ha
        by_cases hn : n = x.n
        · subst hn
          go_wp2_with fail
          go_region_held3 (fun w' => w'.cell? ⟨w.heap.size, 0, none⟩ = some (.int .i64 x.a) ∧ w'.cell? ⟨w.heap.size, 1, none⟩ = some (.bool x.n) ∧ w'.cell? (ad.add (j * 2)) = some (.int .i64 x.a) ∧ w'.cell? ⟨(ad.add (j * 2)).block, (ad.add (j * 2)).off + 1, none⟩ = some (.bool x.n)) (first | (go_keep; done) | (go_split_ands; (repeat' apply And.intro) <;> (first | (with_reducible assumption) | (go_simp; done) | (exact cell_keep blw (by assumption)) | exact blw))) (first | fail)
          go_wp2_with fail
          go_ret
          have hy : asked (E.take (j + 1)) x.a x.n = true := by rw [HT.out]; simp
          exact ⟨⟨(j : Int), rfl, (decide_eq_true (by omega)).trans (asked_more hy).symm⟩, blw⟩
        · have hnb : (n == x.n) = false := by simp [hn]
          have hnc : (x.n == n) = false := by simp [Ne.symm hn]
          go_wp2_with fail
          go_region_held3 (fun w' => w'.cell? ⟨w.heap.size, 0, none⟩ = some (.int .i64 x.a) ∧ w'.cell? ⟨w.heap.size, 1, none⟩ = some (.bool n) ∧ w'.cell? (ad.add (j * 2)) = some (.int .i64 x.a) ∧ w'.cell? ⟨(ad.add (j * 2)).block, (ad.add (j * 2)).off + 1, none⟩ = some (.bool x.n)) (first | (go_keep; done) | (go_split_ands; (repeat' apply And.intro) <;> (first | (with_reducible assumption) | (go_simp; done) | (exact cell_keep blw (by assumption)) | exact blw))) (first | fail)
          go_wp2_with fail
          exact ⟨⟨j + 1, by omega, by go_num, by rw [HT.out, hnc]; simp, ⟨blw, by simp [b0], by simp [b1]⟩⟩, by simp [intOf]; omega⟩
      · have hnb : (k == x.a) = false := by simp [ha]
        have hnc : (x.a == k) = false := by simp [Ne.symm ha]
        go_wp2_with fail
        go_region_held3 (fun w' => w'.cell? ⟨w.heap.size, 0, none⟩ = some (.int .i64 k) ∧ w'.cell? ⟨w.heap.size, 1, none⟩ = some (.bool n) ∧ w'.cell? (ad.add (j * 2)) = some (.int .i64 x.a) ∧ w'.cell? ⟨(ad.add (j * 2)).block, (ad.add (j * 2)).off + 1, none⟩ = some (.bool x.n)) (first | (go_keep; done) | (go_split_ands; (repeat' apply And.intro) <;> (first | (with_reducible assumption) | (go_simp; done) | (exact cell_keep blw (by assumption)) | exact blw))) (first | fail)
        go_wp2_with fail
        exact ⟨⟨j + 1, by omega, by go_num, by rw [HT.out, hnc]; simp, ⟨blw, by simp [b0], by simp [b1]⟩⟩, by simp [intOf]; omega⟩
    · go_wp2
      go_ret
      have e : j = E.length := by omega
      subst e
      rw [List.take_length] at hno
      exact ⟨⟨-1, rfl, hno.symm⟩, HB.out⟩
theorem impl_within (n lo hi : Int) (w : World) : Calls Tryd.prog 15 #[.int .i64 n, .int .i64 lo, .int .i64 hi] w fun e w' => e = .returned (.bool (decide (lo ≤ n) && decide (n ≤ hi))) ∧ w = w' := by
  by_cases h : lo ≤ n
  · by_cases h2 : n ≤ hi
    · have HB := hR w; go_enter Tryd.func15, Tryd.ntmps15
      go_wp2
      go_ret
      exact ⟨ret_of (congrArg Value.bool (by simp [h, h2])), rfl⟩
    · have HB := hR w; go_enter Tryd.func15, Tryd.ntmps15
      go_wp2
      go_ret
      exact ⟨ret_of (congrArg Value.bool (by simp [h, h2])), rfl⟩
  · have HB := hR w; go_enter Tryd.func15, Tryd.ntmps15
    go_wp2
    go_ret
    exact ⟨ret_of (congrArg Value.bool (show false = _ from by rw [show decide (lo ≤ n) = false from by simp [h]]; rfl)), rfl⟩
theorem impl_Contains (A : Option Addr) (c : Nat) (E : List Evt) (k : Int) (n : Bool) (w : World) (h : evK.C w A E.length E) (hl : E.length ≤ 1048576) :
    Calls Tryd.prog 17 #[.slice A E.length c, .agg #[.int .i64 k, .bool n]] w fun e w' => e = .returned (.bool (asked E k n)) ∧ Below w.heap.size w w' := by
  have HB := hR w; go_enter Tryd.func17, Tryd.ntmps17
  go_wp2_with fail
  refine Calls.mono (impl_Index A c E k n _ (Kd.C_below h (blw)) hl) ?_
  rintro _ w1 ⟨⟨i, rfl, hi⟩, hb⟩
  replace HB := Aside0.mk (below_step (w := w) (blw) hb)
  go_wp2_with fail
  go_ret
  exact ⟨rfl, blw⟩
end Go.Proofs.YtoncmhfmkfeolaaDoor
