/- Words that all texts of this seat use: cells behind a call that makes memory, small arithmetic. -/
import Derived.Test.YthlmddcjbhacmaaDoorProg
import Derived.WalkKit
import Derived.ProofKit
import Derived.OpenShut
import Derived.WalkLawsBesides
import Derived.WalkSpells
import Derived.Deep.QuietTactic
import Derived.BigQuiet
import Derived.Lib.Hide
import Derived.Test.YthlmddcjbhacmaaDoorWWords
set_option linter.unusedVariables false
set_option linter.unusedSimpArgs false
namespace Go.Proofs.YthlmddcjbhacmaaDoor
open Go.RowKit Go.Proofs.YthlmddcjbhacmaaDoorW.PrintWords
theorem bR (n : Nat) (w : World) : Below n w w := Below.refl n w
theorem bA {w W : World} (h : Below w.heap.size w W) (o : Obj) : Below w.heap.size w (W.alloc o) := below_alloc h o
theorem bD {n : Nat} {w W : World} (h : Below n w W) : Below n w W.drew := below_drew1 h
theorem bN {n : Nat} {w W : World} (h : Below n w W) (k : Nat) : Below n w (W.drewN k) := pw_below_drewN h k
theorem bS {w W : World} {g j : Nat} {v : Value} (h : Below w.heap.size w W) (hg : w.heap.size ≤ g) : Below w.heap.size w (W.setCell ⟨g, j, none⟩ v) := below_set h hg
theorem hR (w : World) : Aside0 (Below w.heap.size w w) := ⟨Below.refl _ _⟩
theorem sA (w : World) (o : Obj) : (w.alloc o).heap.size = w.heap.size + 1 := World.size_alloc w o
theorem sC (w : World) (p : Addr) (v : Value) : (w.setCell p v).heap.size = w.heap.size := World.size_setCell w p v
theorem sD (w : World) : w.drew.heap.size = w.heap.size := rfl
theorem blw {n : Nat} {w W : World} (h : Below n w W := by (repeat (first | (with_reducible first | exact bR _ _ | assumption | (apply Aside0.out; assumption) | apply bA | apply bD | apply bN) | ((with_reducible refine bS ?_ ?_); rotate_left; (first | omega | (simp; done) | (simp; omega)))))) : Below n w W := h
theorem bcell {W w1 : World} (hb : Below W.heap.size W w1) : (∀ p : Addr, p.block < W.heap.size → w1.cell? p = W.cell? p) ∧ (∀ p : Addr, p.block < W.heap.size → w1.frozen? p = W.frozen? p) ∧ (∀ b, b < W.heap.size → b < w1.heap.size) ∧ (∀ b, b < W.heap.size → b ≤ w1.heap.size) ∧ (∀ b, b < W.heap.size → ¬ b = w1.heap.size) ∧ (∀ b, b < W.heap.size → ¬ w1.heap.size = b) :=
  ⟨fun p h => hb.cell (p := p) h, fun p h => hb.frozen (p := p) h, fun b h => Nat.lt_of_lt_of_le h hb.size, fun b h => Nat.le_of_lt (Nat.lt_of_lt_of_le h hb.size), fun b h => Nat.ne_of_lt (Nat.lt_of_lt_of_le h hb.size), fun b h => Nat.ne_of_gt (Nat.lt_of_lt_of_le h hb.size)⟩
theorem lt_s2 (n : Nat) : (n < n + 1 + 1) = True := eq_true (by omega)
theorem le_s2 (n : Nat) : (n ≤ n + 1 + 1) = True := eq_true (by omega)
theorem ne_s2 (n : Nat) : (n = n + 1 + 1) = False := eq_false (by omega)
theorem en_s2 (n : Nat) : (n + 1 + 1 = n) = False := eq_false (by omega)
theorem lt_s3 (n : Nat) : (n < n + 1 + 1 + 1) = True := eq_true (by omega)
theorem le_s3 (n : Nat) : (n ≤ n + 1 + 1 + 1) = True := eq_true (by omega)
theorem ne_s3 (n : Nat) : (n = n + 1 + 1 + 1) = False := eq_false (by omega)
theorem en_s3 (n : Nat) : (n + 1 + 1 + 1 = n) = False := eq_false (by omega)
theorem lt_s4 (n : Nat) : (n < n + 1 + 1 + 1 + 1) = True := eq_true (by omega)
theorem le_s4 (n : Nat) : (n ≤ n + 1 + 1 + 1 + 1) = True := eq_true (by omega)
theorem ne_s4 (n : Nat) : (n = n + 1 + 1 + 1 + 1) = False := eq_false (by omega)
theorem en_s4 (n : Nat) : (n + 1 + 1 + 1 + 1 = n) = False := eq_false (by omega)
theorem lt_s5 (n : Nat) : (n < n + 1 + 1 + 1 + 1 + 1) = True := eq_true (by omega)
theorem le_s5 (n : Nat) : (n ≤ n + 1 + 1 + 1 + 1 + 1) = True := eq_true (by omega)
theorem ne_s5 (n : Nat) : (n = n + 1 + 1 + 1 + 1 + 1) = False := eq_false (by omega)
theorem en_s5 (n : Nat) : (n + 1 + 1 + 1 + 1 + 1 = n) = False := eq_false (by omega)
theorem lt_s6 (n : Nat) : (n < n + 1 + 1 + 1 + 1 + 1 + 1) = True := eq_true (by omega)
theorem le_s6 (n : Nat) : (n ≤ n + 1 + 1 + 1 + 1 + 1 + 1) = True := eq_true (by omega)
theorem ne_s6 (n : Nat) : (n = n + 1 + 1 + 1 + 1 + 1 + 1) = False := eq_false (by omega)
theorem en_s6 (n : Nat) : (n + 1 + 1 + 1 + 1 + 1 + 1 = n) = False := eq_false (by omega)
theorem lt_s7 (n : Nat) : (n < n + 1 + 1 + 1 + 1 + 1 + 1 + 1) = True := eq_true (by omega)
theorem le_s7 (n : Nat) : (n ≤ n + 1 + 1 + 1 + 1 + 1 + 1 + 1) = True := eq_true (by omega)
theorem ne_s7 (n : Nat) : (n = n + 1 + 1 + 1 + 1 + 1 + 1 + 1) = False := eq_false (by omega)
theorem en_s7 (n : Nat) : (n + 1 + 1 + 1 + 1 + 1 + 1 + 1 = n) = False := eq_false (by omega)
theorem lt_s8 (n : Nat) : (n < n + 1 + 1 + 1 + 1 + 1 + 1 + 1 + 1) = True := eq_true (by omega)
theorem le_s8 (n : Nat) : (n ≤ n + 1 + 1 + 1 + 1 + 1 + 1 + 1 + 1) = True := eq_true (by omega)
theorem ne_s8 (n : Nat) : (n = n + 1 + 1 + 1 + 1 + 1 + 1 + 1 + 1) = False := eq_false (by omega)
theorem en_s8 (n : Nat) : (n + 1 + 1 + 1 + 1 + 1 + 1 + 1 + 1 = n) = False := eq_false (by omega)
theorem lt_s9 (n : Nat) : (n < n + 1 + 1 + 1 + 1 + 1 + 1 + 1 + 1 + 1) = True := eq_true (by omega)
theorem le_s9 (n : Nat) : (n ≤ n + 1 + 1 + 1 + 1 + 1 + 1 + 1 + 1 + 1) = True := eq_true (by omega)
theorem ne_s9 (n : Nat) : (n = n + 1 + 1 + 1 + 1 + 1 + 1 + 1 + 1 + 1) = False := eq_false (by omega)
theorem en_s9 (n : Nat) : (n + 1 + 1 + 1 + 1 + 1 + 1 + 1 + 1 + 1 = n) = False := eq_false (by omega)
attribute [go_sem] lt_s2 le_s2 ne_s2 en_s2 lt_s3 le_s3 ne_s3 en_s3 lt_s4 le_s4 ne_s4 en_s4 lt_s5 le_s5 ne_s5 en_s5 lt_s6 le_s6 ne_s6 en_s6 lt_s7 le_s7 ne_s7 en_s7 lt_s8 le_s8 ne_s8 en_s8 lt_s9 le_s9 ne_s9 en_s9
theorem cell_keep {W w' : World} {p : Addr} {v : Value} (hb : Below W.heap.size W w') (hc : W.cell? p = some v) : w'.cell? p = some v := (hb.cell (World.block_lt_of_cell? W p hc)).trans hc
theorem grown_refl (w : World) (row : Option Nat) : w.grownBy w row := ⟨rfl, rfl, rfl, Nat.le_refl _, fun _ _ _ => rfl⟩
theorem ret_of {a b : Value} (h : a = b) : Ending.returned a = .returned b := by rw [h]
def b2i (b : Bool) : Int := if b then 1 else 0
theorem b2i_lo (b : Bool) : 0 ≤ b2i b := by unfold b2i; split <;> omega
theorem b2i_hi (b : Bool) : b2i b ≤ 1 := by unfold b2i; split <;> omega
theorem u8_mask (j : Nat) (hj : j ≤ 8) (x : Int) (h0 : 0 ≤ x) (h1 : x < 256) : bits .and .u8 x (2 ^ j - 1) = x % 2 ^ j := bits_mask .u8 8 (by decide) wraps_u8 j hj x h0 h1
theorem u8_and1 (x : Int) (h0 : 0 ≤ x) (h1 : x < 256) : bits .and .u8 x 1 = x % 2 := u8_mask 1 (by decide) x h0 h1
theorem u8_and240 (x : Int) (h0 : 0 ≤ x) (h1 : x < 256) : bits .and .u8 x 240 = x / 16 * 16 := by
  obtain ⟨n, rfl⟩ := Int.eq_ofNat_of_zero_le h0
  have : ∀ n : Nat, n < 256 → ((n &&& 240 : Nat) : Int) = (n : Int) / 16 * 16 := by decide +kernel
  rw [show (240 : Int) = ((240 : Nat) : Int) from rfl, u8_and_nat _ _ (by omega) (by omega)]
  exact this n (by omega)
theorem i64_mask (j : Nat) (hj : j ≤ 62) (n : Int) (m : Int) (hm : m = ((2 ^ j - 1 : Nat) : Int)) (hb : (BitVec.ofInt 64 m).toNat = 2 ^ j - 1) : bits .and .i64 n m = n % ((2 ^ j : Nat) : Int) := by
  have key : (BitVec.ofInt 64 n &&& BitVec.ofInt 64 m).toNat = (n % ((2 ^ 64 : Nat) : Int)).toNat % 2 ^ j := by
    rw [BitVec.toNat_and, BitVec.toNat_ofInt, hb, Nat.and_two_pow_sub_one_eq_mod]
  show IntKind.i64.wrap ((BitVec.ofInt 64 n &&& BitVec.ofInt 64 m).toNat : Nat) = _
  rw [key, IntKind.wrap_i64]
  have h1 : (n % ((2 ^ 64 : Nat) : Int)).toNat % 2 ^ j = (n % ((2 ^ j : Nat) : Int)).toNat := by
    have hd : ((2 ^ j : Nat) : Int) ∣ ((2 ^ 64 : Nat) : Int) := by
      exact Int.natCast_dvd_natCast.2 (Nat.pow_dvd_pow 2 (by omega))
    have h2 := Int.emod_emod_of_dvd n hd
    have hp : (0 : Int) < ((2 ^ j : Nat) : Int) := Int.natCast_pos.2 (Nat.two_pow_pos j)
    have h0 : 0 ≤ n % ((2 ^ 64 : Nat) : Int) := Int.emod_nonneg _ (by decide)
    have h3 : 0 ≤ n % ((2 ^ j : Nat) : Int) := Int.emod_nonneg _ (by omega)
    apply Int.ofNat.inj
    show (((n % ((2 ^ 64 : Nat) : Int)).toNat % 2 ^ j : Nat) : Int) = (((n % ((2 ^ j : Nat) : Int)).toNat : Nat) : Int)
    rw [Int.natCast_emod, Int.toNat_of_nonneg h0, Int.toNat_of_nonneg h3]
    exact h2
  rw [h1]
  have hp : (0 : Int) < ((2 ^ j : Nat) : Int) := Int.natCast_pos.2 (Nat.two_pow_pos j)
  have h3 : 0 ≤ n % ((2 ^ j : Nat) : Int) := Int.emod_nonneg _ (by omega)
  have h4 : n % ((2 ^ j : Nat) : Int) < ((2 ^ j : Nat) : Int) := Int.emod_lt_of_pos _ hp
  have h5 : (2 : Nat) ^ j ≤ 2 ^ 62 := Nat.pow_le_pow_right (by decide) hj
  have h6 : ((2 ^ j : Nat) : Int) ≤ 4611686018427387904 := by
    have := Int.ofNat_le.2 h5
    exact Int.le_trans this (by decide)
  rw [Int.toNat_of_nonneg h3]
  omega
theorem i64_and15 (n : Int) : bits .and .i64 n 15 = n % 16 := i64_mask 4 (by decide) n 15 rfl (by decide)
theorem i64_and255 (n : Int) : bits .and .i64 n 255 = n % 256 := i64_mask 8 (by decide) n 255 rfl (by decide)
theorem i64_and65535 (n : Int) : bits .and .i64 n 65535 = n % 65536 := i64_mask 16 (by decide) n 65535 rfl (by decide)
theorem u8_not (x : Int) (h0 : 0 ≤ x) (h1 : x < 256) : bits .xor .u8 IntKind.u8.max x = 255 - x := by
  rw [show IntKind.u8.max = 255 from rfl]
  obtain ⟨n, rfl⟩ := Int.eq_ofNat_of_zero_le h0
  have : ∀ n : Nat, n < 256 → ((255 ^^^ n : Nat) : Int) = 255 - (n : Int) := by decide +kernel
  rw [show (255 : Int) = ((255 : Nat) : Int) from rfl, u8_xor_nat _ _ (by omega) (by omega)]
  exact this n (by omega)
end Go.Proofs.YthlmddcjbhacmaaDoor
