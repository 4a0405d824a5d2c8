/- The byte of flags. -/
import Derived.Test.YtghmeghbekkanaaCore
import Derived.Deep.RegionHeld3
set_option linter.unusedVariables false
set_option linter.unusedSimpArgs false
namespace Go.Proofs.Ytghmeghbekkanaa
open Go.RowKit Go.Proofs.YtghmeghbekkanaaW.PrintWords
theorem w64 {x : Int} (h : -1000000 ≤ x ∧ x ≤ 1000000) : IntKind.i64.wrap x = x := by rw [IntKind.wrap_i64]; omega
def packP (f : F6) (k : Bool) : Int := b2i f.N * 128 + b2i f.V * 64 + 32 + b2i k * 16 + b2i f.D * 8 + b2i f.I * 4 + b2i f.Z * 2 + b2i f.C
theorem packP_b (f : F6) (k : Bool) : 0 ≤ packP f k ∧ packP f k < 256 := by
  have h (b : Bool) : 0 ≤ b2i b ∧ b2i b ≤ 1 := ⟨b2i_lo b, b2i_hi b⟩
  have := h f.N; have := h f.V; have := h f.D; have := h f.I; have := h f.Z; have := h f.C; have := h k
  unfold packP
  omega
def bitI (b : Bool) (k : Int) : Int := if b then 2 ^ k.toNat else 0
theorem impl_bit (b : Bool) (k : Int) (w : World) (h0 : 0 ≤ k) (h1 : k < 8) : Calls Try.prog 78 #[.bool b, .int .i64 k] w fun e w' => e = .returned (.int .u8 (bitI b k)) ∧ w = w' := by
  have hk : k = 0 ∨ k = 1 ∨ k = 2 ∨ k = 3 ∨ k = 4 ∨ k = 5 ∨ k = 6 ∨ k = 7 := by omega
  rcases hk with rfl | rfl | rfl | rfl | rfl | rfl | rfl | rfl <;> cases b
  all_goals
    have HB := hR w; go_enter Try.func78, Try.ntmps78
    go_wp2
    go_ret
    exact ⟨rfl, rfl⟩
def bitJ (b : Bool) (k : Int) : Int := if b then k else 0
theorem spec_l02Bit (b : Bool) (k : Int) (w : World) : Calls Try.prog 50 #[.bool b, .int .i64 k] w fun e w' => e = .returned (.int .i64 (bitJ b k)) ∧ w = w' := by
  cases b
  all_goals
    have HB := hR w; go_enter Try.func50, Try.ntmps50
    go_wp2
    go_ret
    exact ⟨rfl, rfl⟩
theorem pack_or : ∀ n v d i z c k : Bool, bits .or .u8 (bits .or .u8 (bits .or .u8 (bits .or .u8 (bits .or .u8 (bits .or .u8 (bits .or .u8 (bitI n 7) (bitI v 6)) 32) (bitI k 4)) (bitI d 3)) (bitI i 2)) (bitI z 1)) (bitI c 0) = packP ⟨n, v, d, i, z, c⟩ k := by decide +kernel
set_option maxHeartbeats 1000000 in
theorem impl_PackP (f : F6) (k : Bool) (w : World) : Calls Try.prog 67 #[.agg #[.bool f.N, .bool f.V, .bool f.D, .bool f.I, .bool f.Z, .bool f.C], .bool k] w fun e w' => e = .returned (.int .u8 (packP f k)) ∧ Below w.heap.size w w' := by
  have hp := pack_or f.N f.V f.D f.I f.Z f.C k
  have HB := hR w; go_enter Try.func67, Try.ntmps67
  go_wp2_with fail
  go_region_held3 (fun w' => Below w.heap.size w w' ∧ w'.cell? ⟨w.heap.size, 0, none⟩ = some (.bool f.N) ∧ w'.cell? ⟨w.heap.size, 1, none⟩ = some (.bool f.V) ∧ w'.cell? ⟨w.heap.size, 2, none⟩ = some (.bool f.D) ∧ w'.cell? ⟨w.heap.size, 3, none⟩ = some (.bool f.I) ∧ w'.cell? ⟨w.heap.size, 4, none⟩ = some (.bool f.Z) ∧ w'.cell? ⟨w.heap.size, 5, none⟩ = some (.bool f.C)) (first | (go_keep; done) | (go_split_ands; (repeat' apply And.intro) <;> (first | (with_reducible assumption) | (go_simp; done) | (exact cell_keep blw (by assumption)) | exact blw))) (first | (go_at_call 78; ((with_reducible refine (impl_bit _ _ _ (by decide) (by decide)).mono ?_); rintro _ _ ⟨rfl, rfl⟩)))
  go_wp2_with fail
  go_ret
  exact ⟨ret_of (by rw [← hp]; rfl), blw⟩
theorem pack_sum : ∀ n v d i z c k : Bool, IntKind.u8.wrap (bitJ n 128 + bitJ v 64 + 32 + bitJ k 16 + bitJ d 8 + bitJ i 4 + bitJ z 2 + bitJ c 1) = packP ⟨n, v, d, i, z, c⟩ k := by decide +kernel
theorem bitJ_b (b : Bool) (k : Int) (h : 0 ≤ k) : 0 ≤ bitJ b k ∧ bitJ b k ≤ k := by cases b <;> simp [bitJ] <;> omega
set_option maxHeartbeats 1000000 in
theorem spec_PackP (f : F6) (k : Bool) (w : World) : Calls Try.prog 61 #[.agg #[.bool f.N, .bool f.V, .bool f.D, .bool f.I, .bool f.Z, .bool f.C], .bool k] w fun e w' => e = .returned (.int .u8 (packP f k)) ∧ Below w.heap.size w w' := by
  have hp := pack_sum f.N f.V f.D f.I f.Z f.C k
  have z1 := bitJ_b f.N 128 (by decide)
  have z2 := bitJ_b f.V 64 (by decide)
  have z3 := bitJ_b k 16 (by decide)
  have z4 := bitJ_b f.D 8 (by decide)
  have z5 := bitJ_b f.I 4 (by decide)
  have z6 := bitJ_b f.Z 2 (by decide)
  have z7 := bitJ_b f.C 1 (by decide)
  have HP := Aside0.mk hp
  clear hp
  have HB := hR w; go_enter Try.func61, Try.ntmps61
  go_wp2_with fail
  go_region_held3 (fun w' => Below w.heap.size w w' ∧ w'.cell? ⟨w.heap.size, 0, none⟩ = some (.bool f.N) ∧ w'.cell? ⟨w.heap.size, 1, none⟩ = some (.bool f.V) ∧ w'.cell? ⟨w.heap.size, 2, none⟩ = some (.bool f.D) ∧ w'.cell? ⟨w.heap.size, 3, none⟩ = some (.bool f.I) ∧ w'.cell? ⟨w.heap.size, 4, none⟩ = some (.bool f.Z) ∧ w'.cell? ⟨w.heap.size, 5, none⟩ = some (.bool f.C)) (first | (go_keep; done) | (go_split_ands; (repeat' apply And.intro) <;> (first | (with_reducible assumption) | (go_simp; done) | (exact cell_keep blw (by assumption)) | exact blw))) (first | (go_at_call 50; ((with_reducible refine (spec_l02Bit _ _ _).mono ?_); rintro _ _ ⟨rfl, rfl⟩)))
  go_wp2_with fail
  go_ret
  exact ⟨ret_of (by rw [← HP.out]; simp [IntKind.wrap_u8]; rw [w64 (x := bitJ f.N 128 + bitJ f.V 64) (by omega), w64 (x := _ + 32) (by omega), w64 (x := _ + bitJ k 16) (by omega), w64 (x := _ + bitJ f.D 8) (by omega), w64 (x := _ + bitJ f.I 4) (by omega), w64 (x := _ + bitJ f.Z 2) (by omega), w64 (x := _ + bitJ f.C 1) (by omega)]), blw⟩
end Go.Proofs.Ytghmeghbekkanaa
