/- Memories that are marked and read back by the exact laws. -/
import Derived.Test.YtghmeghbekkanaaRamX
set_option linter.unusedVariables false
set_option linter.unusedSimpArgs false
namespace Go.Proofs.Ytghmeghbekkanaa
open Go.RowKit Go.Proofs.YtghmeghbekkanaaW.PrintWords
theorem ne_row {row : Option Nat} {lo hi n : Nat} (h : ∀ k, row = some k → lo ≤ k ∧ k < hi) (hn : n < lo ∨ hi ≤ n) : some n ≠ row := fun e => by have := h n e.symm; omega
theorem OwnB.row {w : World} {base : Nat} {v : Value} {l : List Int} (h : OwnB w base v l) : ∀ k, v.ownBlock = some k → base ≤ k ∧ k < w.heap.size := fun k e => ⟨Kd.R_base h k e, Kd.R_lt h k e⟩
theorem OwnB.away {w0 w w1 : World} {base lo hi : Nat} {v : Value} {l : List Int} {row : Option Nat} (h0 : OwnB w0 base v l) (hb : Below w0.heap.size w0 w) (hg : w.grownBy w1 row)
    (hr : ∀ k, row = some k → lo ≤ k ∧ k < hi) (hd : w0.heap.size ≤ lo ∨ hi ≤ base) : OwnB w1 base v l :=
  Kd.R_mono (Kd.R_grown (Kd.R_below (Kd.R_bound h0) hb) hg (fun k hk e => by have h1 := hk.2.1; have h2 := hk.2.2.1; have h3 := hr k e.symm; omega)) (fun _ _ => trivial)
theorem Below.mark {B lo hi : Nat} {a w w1 : World} {row : Option Nat} (h : Below B a w) (hg : w.grownBy w1 row) (hr : ∀ k, row = some k → lo ≤ k ∧ k < hi) (hl : B ≤ lo) (hw : B ≤ w.heap.size) : Below B a w1 :=
  Below.grown h hg hw (fun k e => by have := hr k e; omega)
theorem OwnB.le {w : World} {base : Nat} {A : Option Addr} {n c : Nat} {l : List Int} (h : OwnB w base (.slice A n c) l) : n = l.length := by
  obtain ⟨A1, c1, e, _⟩ := h.reads
  injection e
set_option maxHeartbeats 400000 in
theorem laws_markRam (base : Nat) (A : Option Addr) (c : Nat) (l : List Int) (n : Int) (w : World) (h : OwnB w base (.slice A l.length c) l) (hl : l.length ≤ 1048576) (h0 : 0 ≤ n) (h1 : n ≤ 90000000) :
    Calls Try.prog 13 #[.agg #[.slice A l.length c], .int .i64 n] w fun e w' => e = .returned (.int .i64 (n + l.length)) ∧ OwnB w' base (.slice A l.length c) (mkB n l.length) ∧ w.grownBy w' (Value.slice A l.length c).ownBlock := by
  have HB := hR w; go_enter Try.func13, Try.ntmps13
  go_wp2_with (first | (go_at_call 40; ((with_reducible refine (laws_markByteS base _ _ _ _ _ (h.alloc _) hl (by omega) (by omega)).mono ?_); rintro _ w1 ⟨rfl, HO, HG⟩; skip)))
  go_ret
  exact ⟨rfl, HO, (World.grownBy_alloc _ _ _).trans HG⟩
theorem laws_heldRam (A : Option Addr) (c m : Nat) (n : Int) (w : World) (h : Bs w A (mkB n m)) (hl : m ≤ 1048576) (h0 : 0 ≤ n) (h1 : n ≤ 90000000) :
    Calls Try.prog 15 #[.agg #[.slice A m c], .int .i64 n] w fun e w' => e = .returned (.int .i64 (n + m)) ∧ Below w.heap.size w w' := by
  have HB := hR w; go_enter Try.func15, Try.ntmps15
  go_wp2_with (first | (go_at_call 41; ((with_reducible refine (laws_heldByteS _ _ _ _ _ (h.below (blw)) hl (by omega) (by omega)).mono ?_); rintro _ _ ⟨rfl, rfl⟩)))
  go_ret
  exact ⟨rfl, blw⟩
theorem fillN_rd (a : Int) (m l : List Int) (hl : ∀ i, 0 ≤ rd l i ∧ rd l i < 256) (hm : ∀ i, 0 ≤ rd m i ∧ rd m i < 256) (n : Nat) (i : Int) : 0 ≤ rd (fillN a m l n) i ∧ rd (fillN a m l n) i < 256 := by
  induction n with
  | zero => exact hl i
  | succ n ih =>
    have h1 := hm n
    simp only [fillN]
    unfold rd at *
    rw [List.getD_eq_getElem?_getD, List.getElem?_set]
    split
    · split
      · simpa using h1
      · simp
    · rw [← List.getD_eq_getElem?_getD]; exact ih
theorem fill_rd (a : Int) (m l : List Int) (hl : ∀ i, 0 ≤ rd l i ∧ rd l i < 256) (hm : ∀ i, 0 ≤ rd m i ∧ rd m i < 256) (i : Int) : 0 ≤ rd (fill l a m) i ∧ rd (fill l a m) i < 256 := by
  unfold fill
  split
  · exact fillN_rd _ _ _ hl hm _ _
  · simp [rd]
theorem fill_le (l : List Int) (a : Int) (m : List Int) : (fill l a m).length ≤ l.length := by
  unfold fill
  split
  · rw [fillN_len]; exact Nat.le_refl _
  · simp
theorem rd_one {b : Int} (h0 : 0 ≤ b) (h1 : b < 256) (i : Int) : 0 ≤ rd [b] i ∧ rd [b] i < 256 := by
  rcases Nat.eq_zero_or_pos i.toNat with e | e
  · simp [rd, e]; omega
  · obtain ⟨n, hn⟩ : ∃ n, i.toNat = n + 1 := ⟨i.toNat - 1, by omega⟩
    simp [rd, hn]
end Go.Proofs.Ytghmeghbekkanaa
