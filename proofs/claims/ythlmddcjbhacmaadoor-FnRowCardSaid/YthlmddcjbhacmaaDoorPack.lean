/- The byte of flags. -/
import Derived.Test.YthlmddcjbhacmaaDoorCore
import Derived.Deep.RegionHeld3
set_option linter.unusedVariables false
set_option linter.unusedSimpArgs false
namespace Go.Proofs.YthlmddcjbhacmaaDoor
open Go.RowKit Go.Proofs.YthlmddcjbhacmaaDoorW.PrintWords
theorem w64 {x : Int} (h : -1000000 ≤ x ∧ x ≤ 1000000) : IntKind.i64.wrap x = x := by rw [IntKind.wrap_i64]; omega
def packP (f : F6) (k : Bool) : Int := b2i f.N * 128 + b2i f.V * 64 + 32 + b2i k * 16 + b2i f.D * 8 + b2i f.I * 4 + b2i f.Z * 2 + b2i f.C
theorem packP_b (f : F6) (k : Bool) : 0 ≤ packP f k ∧ packP f k < 256 := by
  have h (b : Bool) : 0 ≤ b2i b ∧ b2i b ≤ 1 := ⟨b2i_lo b, b2i_hi b⟩
  have := h f.N; have := h f.V; have := h f.D; have := h f.I; have := h f.Z; have := h f.C; have := h k
  unfold packP
  omega
def bitI (b : Bool) (k : Int) : Int := if b then 2 ^ k.toNat else 0
def bitJ (b : Bool) (k : Int) : Int := if b then k else 0
theorem spec_l02Bit (b : Bool) (k : Int) (w : World) : Calls Tryd.prog 95 #[.bool b, .int .i64 k] w fun e w' => e = .returned (.int .i64 (bitJ b k)) ∧ w = w' := by
  cases b
  all_goals
    have HB := hR w; go_enter Tryd.func95, Tryd.ntmps95
    go_wp2
    go_ret
    exact ⟨rfl, rfl⟩
theorem pack_or : ∀ n v d i z c k : Bool, bits .or .u8 (bits .or .u8 (bits .or .u8 (bits .or .u8 (bits .or .u8 (bits .or .u8 (bits .or .u8 (bitI n 7) (bitI v 6)) 32) (bitI k 4)) (bitI d 3)) (bitI i 2)) (bitI z 1)) (bitI c 0) = packP ⟨n, v, d, i, z, c⟩ k := by decide +kernel
theorem pack_sum : ∀ n v d i z c k : Bool, IntKind.u8.wrap (bitJ n 128 + bitJ v 64 + 32 + bitJ k 16 + bitJ d 8 + bitJ i 4 + bitJ z 2 + bitJ c 1) = packP ⟨n, v, d, i, z, c⟩ k := by decide +kernel
theorem bitJ_b (b : Bool) (k : Int) (h : 0 ≤ k) : 0 ≤ bitJ b k ∧ bitJ b k ≤ k := by cases b <;> simp [bitJ] <;> omega
end Go.Proofs.YthlmddcjbhacmaaDoor
