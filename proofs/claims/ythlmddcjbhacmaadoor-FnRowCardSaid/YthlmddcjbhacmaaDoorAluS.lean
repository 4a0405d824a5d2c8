/- The processor's sums, moves, comparisons and flags: what the reference's functions return. -/
import Derived.Test.YthlmddcjbhacmaaDoorAluM
set_option linter.unusedVariables false
set_option linter.unusedSimpArgs false
namespace Go.Proofs.YthlmddcjbhacmaaDoor
open Go.RowKit Go.Proofs.YthlmddcjbhacmaaDoorW.PrintWords
attribute [local go_sem] u8_and15 u8_and240 i64_and15
theorem spec_one (b : Bool) (w : World) : Calls Tryd.prog 95 #[.bool b, .int .i64 1] w fun e w' => e = .returned (.int .i64 (b2i b)) ∧ w = w' := spec_l02Bit b 1 w
theorem spec_b128 (b : Bool) (w : World) : Calls Tryd.prog 95 #[.bool b, .int .i64 128] w fun e w' => e = .returned (.int .i64 (128 * b2i b)) ∧ w = w' := (spec_l02Bit b 128 w).mono fun e w' h => ⟨by rw [h.1]; cases b <;> rfl, h.2⟩
theorem u8_bit128 : ∀ n : Nat, n < 256 → (bits .and .u8 (n : Int) 128 != 0) = decide (128 ≤ (n : Int)) := by decide +kernel
theorem u8_bit64 : ∀ n : Nat, n < 256 → (bits .and .u8 (n : Int) 64 != 0) = bitT (n : Int) 64 := by decide +kernel
theorem u8_bit8 : ∀ n : Nat, n < 256 → (bits .and .u8 (n : Int) 8 != 0) = bitT (n : Int) 8 := by decide +kernel
theorem u8_bit4 : ∀ n : Nat, n < 256 → (bits .and .u8 (n : Int) 4 != 0) = bitT (n : Int) 4 := by decide +kernel
theorem u8_bit2 : ∀ n : Nat, n < 256 → (bits .and .u8 (n : Int) 2 != 0) = bitT (n : Int) 2 := by decide +kernel
theorem u8_bit1 : ∀ n : Nat, n < 256 → (bits .and .u8 (n : Int) 1 != 0) = bitT (n : Int) 1 := by decide +kernel
theorem spec_UnpackP (b : Int) (w : World) (h0 : 0 ≤ b) (h1 : b < 256) : Calls Tryd.prog 86 #[.int .u8 b] w fun e w' => e = .returned (.agg #[.bool (unpackP b).N, .bool (unpackP b).V, .bool (unpackP b).D, .bool (unpackP b).I, .bool (unpackP b).Z, .bool (unpackP b).C]) ∧ Below w.heap.size w w' := by
  have q7 := of_u8 (P := fun b => (bits .and .u8 b 128 != 0) = decide (128 ≤ b)) u8_bit128 b h0 h1
  have q6 := of_u8 (P := fun b => (bits .and .u8 b 64 != 0) = bitT b 64) u8_bit64 b h0 h1
  have q3 := of_u8 (P := fun b => (bits .and .u8 b 8 != 0) = bitT b 8) u8_bit8 b h0 h1
  have q2 := of_u8 (P := fun b => (bits .and .u8 b 4 != 0) = bitT b 4) u8_bit4 b h0 h1
  have q1 := of_u8 (P := fun b => (bits .and .u8 b 2 != 0) = bitT b 2) u8_bit2 b h0 h1
  have q0 := of_u8 (P := fun b => (bits .and .u8 b 1 != 0) = bitT b 1) u8_bit1 b h0 h1
  have HB := hR w; go_enter Tryd.func86, Tryd.ntmps86
  go_wp2
  (refine bodyPost_ret (v := .agg #[.bool (unpackP b).N, .bool (unpackP b).V, .bool (unpackP b).D, .bool (unpackP b).I, .bool (unpackP b).Z, .bool (unpackP b).C]) (by (simp only [results, Tryd.results86]; go_simp <;> ((simp [unpackP]; done)))) rfl ?_)
  exact ⟨rfl, blw⟩
def plainT (a b : Int) (f : F6) : Int × F6 := ((a + b + b2i f.C) % 256, { nz ((a + b + b2i f.C) % 256) f with C := decide (255 < a + b + b2i f.C), V := over a b ((a + b + b2i f.C) % 256) })
theorem plainT_lo (a b : Int) (f : F6) : 0 ≤ (plainT a b f).1 ∧ (plainT a b f).1 < 256 := by unfold plainT; simp only []; omega
theorem u8_div2 (b : Int) (h0 : 0 ≤ b) : b.tdiv 2 = b / 2 := Int.tdiv_eq_ediv_of_nonneg h0
end Go.Proofs.YthlmddcjbhacmaaDoor
