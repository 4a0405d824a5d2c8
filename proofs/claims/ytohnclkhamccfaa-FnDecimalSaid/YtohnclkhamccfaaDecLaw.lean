/- The plain law of FnDecimal: sums and differences of two decimal digits. -/
import Derived.Test.YtohnclkhamccfaaCore
namespace Go.Proofs.Ytohnclkhamccfaa
theorem dec_lo (x : Int) (h0 : 0 ≤ x) (h1 : x < 100) : (x / 10 * 16 + x % 10) % 16 = x % 10 ∧ (x / 10 * 16 + x % 10) / 16 = x / 10 := by omega
theorem dec_add (x y : Int) (c : Bool) (hx0 : 0 ≤ x) (hx : x < 100) (hy0 : 0 ≤ y) (hy : y < 100) :
    adcSum (x / 10 * 16 + x % 10) (y / 10 * 16 + y % 10) c % 256 = (x + y + b2i c) % 100 / 10 * 16 + (x + y + b2i c) % 10 ∧ (255 < adcSum (x / 10 * 16 + x % 10) (y / 10 * 16 + y % 10) c ↔ 100 ≤ x + y + b2i c) := by
  obtain ⟨a1, a2⟩ := dec_lo x hx0 hx
  obtain ⟨b1, b2⟩ := dec_lo y hy0 hy
  have c0 := b2i_lo c
  have c1 := b2i_hi c
  unfold adcSum adcHigh adcLow
  rw [a1, a2, b1, b2]
  generalize b2i c = k at *
  obtain ⟨u, p, hu, hp, h1, h2, h3, h4, h5⟩ : ∃ u p, x / 10 = u ∧ x % 10 = p ∧ x = 10 * u + p ∧ 0 ≤ p ∧ p < 10 ∧ 0 ≤ u ∧ u < 10 := ⟨x / 10, x % 10, rfl, rfl, by omega, by omega, by omega, by omega, by omega⟩
  obtain ⟨v, q, hv, hq, k1, k2, k3, k4, k5⟩ : ∃ u p, y / 10 = u ∧ y % 10 = p ∧ y = 10 * u + p ∧ 0 ≤ p ∧ p < 10 ∧ 0 ≤ u ∧ u < 10 := ⟨y / 10, y % 10, rfl, rfl, by omega, by omega, by omega, by omega, by omega⟩
  rw [hu, hp, hv, hq]
  obtain ⟨n, hn⟩ : ∃ n, x + y + k = n := ⟨_, rfl⟩
  rw [hn]
  clear hu hp hv hq a1 a2 b1 b2
  by_cases h : 10 ≤ p + q + k
  · rw [if_pos h, show (p + q + k + 6) % 16 = p + q + k - 10 by omega]
    by_cases g : 9 ≤ u + v
    · rw [if_pos (by omega), show n % 10 = p + q + k - 10 by omega, show n % 100 = n - 100 by omega, show (n - 100) / 10 = u + v - 9 by omega]
      constructor <;> omega
    · rw [if_neg (by omega), show n % 10 = p + q + k - 10 by omega, show n % 100 = n by omega, show n / 10 = u + v + 1 by omega]
      constructor <;> omega
  · rw [if_neg h]
    by_cases g : 10 ≤ u + v
    · rw [if_pos (by omega), show n % 10 = p + q + k by omega, show n % 100 = n - 100 by omega, show (n - 100) / 10 = u + v - 10 by omega]
      constructor <;> omega
    · rw [if_neg (by omega), show n % 10 = p + q + k by omega, show n % 100 = n by omega, show n / 10 = u + v by omega]
      constructor <;> omega
theorem dec_sub (x y : Int) (hx0 : 0 ≤ x) (hx : x < 100) (hy0 : 0 ≤ y) (hy : y < 100) :
    sbcSum (x / 10 * 16 + x % 10) (y / 10 * 16 + y % 10) true % 256 = (x - y + 100) % 100 / 10 * 16 + (x - y + 100) % 100 % 10 := by
  obtain ⟨a1, a2⟩ := dec_lo x hx0 hx
  obtain ⟨b1, b2⟩ := dec_lo y hy0 hy
  unfold sbcSum sbcHigh sbcLow
  rw [a1, a2, b1, b2]
  simp only [b2i, if_true]
  obtain ⟨u, p, hu, hp, h1, h2, h3, h4, h5⟩ : ∃ u p, x / 10 = u ∧ x % 10 = p ∧ x = 10 * u + p ∧ 0 ≤ p ∧ p < 10 ∧ 0 ≤ u ∧ u < 10 := ⟨x / 10, x % 10, rfl, rfl, by omega, by omega, by omega, by omega, by omega⟩
  obtain ⟨v, q, hv, hq, k1, k2, k3, k4, k5⟩ : ∃ u p, y / 10 = u ∧ y % 10 = p ∧ y = 10 * u + p ∧ 0 ≤ p ∧ p < 10 ∧ 0 ≤ u ∧ u < 10 := ⟨y / 10, y % 10, rfl, rfl, by omega, by omega, by omega, by omega, by omega⟩
  rw [hu, hp, hv, hq]
  obtain ⟨n, hn⟩ : ∃ n, (x - y + 100) % 100 = n := ⟨_, rfl⟩
  rw [hn]
  have hn' : n = if y ≤ x then x - y else x - y + 100 := by split <;> omega
  clear hu hp hv hq a1 a2 b1 b2 hn
  by_cases h : p < q
  · rw [if_pos (show p - q - 1 + 1 < 0 by omega), show (p - q - 1 + 1 - 6) % 16 = p - q + 10 by omega]
    by_cases g : u ≤ v
    · rw [if_neg (by omega)] at hn'
      rw [if_pos (by omega), show n % 10 = p - q + 10 by omega, show n / 10 = u - v + 9 by omega]
      omega
    · rw [if_pos (by omega)] at hn'
      rw [if_neg (by omega), show n % 10 = p - q + 10 by omega, show n / 10 = u - v - 1 by omega]
      omega
  · rw [if_neg (show ¬ p - q - 1 + 1 < 0 by omega)]
    by_cases g : u < v
    · rw [if_neg (by omega)] at hn'
      rw [if_pos (by omega), show n % 10 = p - q by omega, show n / 10 = u - v + 10 by omega]
      omega
    · rw [if_pos (by omega)] at hn'
      rw [if_neg (by omega), show n % 10 = p - q by omega, show n / 10 = u - v by omega]
      omega
theorem dec_less (x y : Int) (hx0 : 0 ≤ x) (hx : x < 100) (hy0 : 0 ≤ y) (hy : y < 100) :
    255 < x / 10 * 16 + x % 10 + (255 - (y / 10 * 16 + y % 10)) + 1 ↔ y ≤ x := by
  obtain ⟨u, p, rfl, hp, hp2⟩ : ∃ u p, x = 10 * u + p ∧ 0 ≤ p ∧ p < 10 := ⟨x / 10, x % 10, by omega, by omega, by omega⟩
  obtain ⟨v, q, rfl, hq, hq2⟩ : ∃ u p, y = 10 * u + p ∧ 0 ≤ p ∧ p < 10 := ⟨y / 10, y % 10, by omega, by omega, by omega⟩
  rw [show (10 * u + p) / 10 = u by omega, show (10 * u + p) % 10 = p by omega]
  rw [show (10 * v + q) / 10 = v by omega, show (10 * v + q) % 10 = q by omega]
  omega
theorem dec_all (x y : Int) (c : Bool) (hx0 : 0 ≤ x) (hx : x < 100) (hy0 : 0 ≤ y) (hy : y < 100) :
    (adc (x / 10 * 16 + x % 10) (y / 10 * 16 + y % 10) ⟨false, false, true, false, false, c⟩).1 = (x + y + b2i c) % 100 / 10 * 16 + (x + y + b2i c) % 10 ∧
    (adc (x / 10 * 16 + x % 10) (y / 10 * 16 + y % 10) ⟨false, false, true, false, false, c⟩).2.C = decide (100 ≤ x + y + b2i c) ∧
    (sbc (x / 10 * 16 + x % 10) (y / 10 * 16 + y % 10) ⟨false, false, true, false, false, true⟩).1 = (x - y + 100) % 100 / 10 * 16 + (x - y + 100) % 100 % 10 ∧
    (sbc (x / 10 * 16 + x % 10) (y / 10 * 16 + y % 10) ⟨false, false, true, false, false, true⟩).2.C = decide (y ≤ x) := by
  obtain ⟨h1, h2⟩ := dec_add x y c hx0 hx hy0 hy
  refine ⟨h1, ?_, dec_sub x y hx0 hx hy0 hy, ?_⟩
  · exact decide_eq_decide.2 h2
  · exact decide_eq_decide.2 (dec_less x y hx0 hx hy0 hy)
end Go.Proofs.Ytohnclkhamccfaa
