/- FnNewRam: a new memory is as long as was asked for, where that is one of the lengths, and nothing is in it. -/
import Derived.Test.YtghmeghbekkanaaDraw
import Derived.Test.YtghmeghbekkanaaRam
set_option linter.unusedVariables false
set_option linter.unusedSimpArgs false
namespace Go.Proofs.Ytghmeghbekkanaa
open Go.RowKit Go.Proofs.YtghmeghbekkanaaW.PrintWords
def newRam (n : Int) : List Int := if ramSize n then List.replicate n.toNat 0 else []
theorem rd_zeros (m : Nat) (i : Int) : rd (List.replicate m 0) i = 0 := by
  unfold rd
  rw [List.getD_eq_getElem?_getD, List.getElem?_replicate]
  split <;> rfl
theorem newRam_rd (n i : Int) : rd (newRam n) i = 0 := by
  unfold newRam
  split
  · exact rd_zeros _ _
  · rfl
theorem newRam_b (n : Int) : ∀ i, 0 ≤ rd (newRam n) i ∧ rd (newRam n) i < 256 := fun i => by rw [newRam_rd]; omega
theorem newRam_peek (n a : Int) : peek (newRam n) a = 0 := by
  unfold peek
  split
  · exact newRam_rd _ _
  · rfl
theorem newRam_ok (n : Int) : ramSize (newRam n).length = decide ((0 : Int) < (newRam n).length) := by
  unfold newRam
  split
  · next h =>
    have := ramSize_le h
    rw [List.length_replicate, Int.toNat_of_nonneg (by omega), h]
    simp
    omega
  · rfl
theorem newRam_le (n : Int) : (newRam n).length ≤ 4096 := by
  unfold newRam
  split
  · next h =>
    have := ramSize_le h
    rw [List.length_replicate]
    omega
  · simp
theorem drawn_n (k : Nat) (h : k < 11) : -1 ≤ rd [0, 1, -1, 128, 256, 512, 1024, 2048, 4096, 8192, 300] k ∧ rd [0, 1, -1, 128, 256, 512, 1024, 2048, 4096, 8192, 300] k ≤ 8192 :=
  (by decide : ∀ k : Nat, k < 11 → -1 ≤ rd [0, 1, -1, 128, 256, 512, 1024, 2048, 4096, 8192, 300] k ∧ rd [0, 1, -1, 128, 256, 512, 1024, 2048, 4096, 8192, 300] k ≤ 8192) k h
@[go_sem] theorem run_field_ram (A : Option Addr) (n c : Nat) (w : World) : Sem.run Try.prog (Instr.field 34 (.agg #[.slice A n c]) 0) w = .ok (.slice A n c) w := by kernel_rfl
theorem w16 (x : Int) : 0 ≤ IntKind.u16.wrap x ∧ IntKind.u16.wrap x < 65536 := by rw [IntKind.wrap_u16]; omega
theorem impl_RamOk_new (A : Option Addr) (c : Nat) (n : Int) (w : World) : Calls Try.prog 34 #[.agg #[.slice A (newRam n).length c]] w fun e w' => e = .returned (.bool (decide ((0 : Int) < (newRam n).length))) ∧ Below w.heap.size w w' := by
  have := impl_RamOk A c (newRam n) w
  rw [newRam_ok] at this
  exact this
theorem impl_Peek_new (A : Option Addr) (c : Nat) (n a : Int) (w : World) (h : Bs w A (newRam n)) (h0 : 0 ≤ a) (h1 : a < 65536) : Calls Try.prog 85 #[.agg #[.slice A (newRam n).length c], .int .u16 a] w fun e w' => e = .returned (.int .u8 0) ∧ Below w.heap.size w w' := by
  have := impl_Peek A c (newRam n) a w h h0 h1
  rw [newRam_peek] at this
  exact this
end Go.Proofs.Ytghmeghbekkanaa
