/- The laws' own sameBytes, on two slices that hold the same bytes. -/
import Derived.Test.YtbffbinipipkkaaGreatDoorGA
set_option linter.unusedVariables false
set_option linter.unusedSimpArgs false
namespace Go.Proofs.YtbffbinipipkkaaGreatDoor
open Go.RowKit Go.Proofs.YtbffbinipipkkaaGreatDoorW.PrintWords
set_option maxHeartbeats 400000 in
theorem laws_sameBytes (A B : Option Addr) (c d : Nat) (l : List Int) (w : World) (h : Bs w A l) (h2 : Bs w B l) (hl : l.length ≤ 1048576) :
    Calls Tryz.prog 24 #[.slice A l.length c, .slice B l.length d] w fun e w' => e = .returned (.bool true) ∧ Below w.heap.size w w' := by
  have HB := hR w; go_enter Tryz.func24, Tryz.ntmps24
  go_wp2
  go_loopw [5] (fun v4 wr => ∃ k : Nat, k ≤ l.length ∧ v4 = .int .i64 k ∧ Aside0 (Below w.heap.size w wr)) (fun v4 _ => l.length - (intOf v4).toNat)
  case atStart => exact ⟨0, Nat.zero_le _, rfl, HB⟩
  case round =>
    obtain ⟨k, hk, rfl, HB⟩ := hrel
    by_cases hlt : k < l.length
    · obtain ⟨ad, rfl, hx⟩ := h.at k (by omega) (by omega)
      obtain ⟨ae, rfl, hy⟩ := h2.at k (by omega) (by omega)
      have hx1 := (HB.out.cell (World.block_lt_of_cell? w _ hx)).trans hx
      have hy1 := (HB.out.cell (World.block_lt_of_cell? w _ hy)).trans hy
      rw [Int.toNat_natCast] at hx1 hy1
      have q0 : (0 : Int) ≤ (k : Int) := by omega
      have q1 : (k : Int) < (l.length : Int) := by omega
      go_wp2
      go_quiet (fail)
      go_wp2
      go_roundw
      case rel => exact ⟨k + 1, by omega, by go_num, ⟨blw⟩⟩
      case measure => simp [intOf]; omega
    · go_wp2
      go_ret
      exact ⟨rfl, blw⟩
end Go.Proofs.YtbffbinipipkkaaGreatDoor
