/- The memory of the processor: sizes, reading a byte. -/
import Derived.Test.YtghmeghbekkanaaSlc
import Derived.Test.YtghmeghbekkanaaCore
import Derived.Deep.RegionHeld3
set_option linter.unusedVariables false
set_option linter.unusedSimpArgs false
namespace Go.Proofs.Ytghmeghbekkanaa
open Go.RowKit Go.Proofs.YtghmeghbekkanaaW.PrintWords
theorem impl_isRamSize (n : Int) (w : World) : Calls Try.prog 63 #[.int .i64 n] w fun e w' => e = .returned (.bool (ramSize n)) ∧ w = w' := by
  unfold ramSize
  by_cases h1 : n = 256
  · subst h1; have HB := hR w; go_enter Try.func63, Try.ntmps63
    go_wp2
    go_ret
    exact ⟨rfl, rfl⟩
  by_cases h2 : n = 512
  · subst h2; have HB := hR w; go_enter Try.func63, Try.ntmps63
    go_wp2
    go_ret
    exact ⟨rfl, rfl⟩
  by_cases h3 : n = 1024
  · subst h3; have HB := hR w; go_enter Try.func63, Try.ntmps63
    go_wp2
    go_ret
    exact ⟨rfl, rfl⟩
  by_cases h4 : n = 2048
  · subst h4; have HB := hR w; go_enter Try.func63, Try.ntmps63
    go_wp2
    go_ret
    exact ⟨rfl, rfl⟩
  have g1 := beq_eq_false_iff_ne.2 h1
  have g2 := beq_eq_false_iff_ne.2 h2
  have g3 := beq_eq_false_iff_ne.2 h3
  have g4 := beq_eq_false_iff_ne.2 h4
  have HB := hR w; go_enter Try.func63, Try.ntmps63
  go_wp2
  go_ret
  exact ⟨ret_of (by simp [h1, h2, h3, h4]), rfl⟩
theorem impl_RamOk (A : Option Addr) (c : Nat) (l : List Int) (w : World) : Calls Try.prog 34 #[.agg #[.slice A l.length c]] w fun e w' => e = .returned (.bool (ramSize l.length)) ∧ Below w.heap.size w w' := by
  have HB := hR w; go_enter Try.func34, Try.ntmps34
  go_wp2_with (first | (go_at_call 63; ((with_reducible refine (impl_isRamSize _ _).mono ?_); rintro _ _ ⟨rfl, rfl⟩)))
  go_ret
  exact ⟨rfl, blw⟩
theorem impl_at (A : Option Addr) (c : Nat) (l : List Int) (a : Int) (w : World) (h0 : 0 ≤ a) (h1 : a < 65536) (h2 : 0 < l.length) (h3 : l.length ≤ 1000000) : Calls Try.prog 97 #[.agg #[.slice A l.length c], .int .u16 a] w fun e w' => e = .returned (.int .i64 (a % l.length)) ∧ Below w.heap.size w w' := by
  have hn : ¬ l = [] := fun h => by subst h; simp at h2
  have HB := hR w; go_enter Try.func97, Try.ntmps97
  go_wp2
  go_ret
  exact ⟨rfl, blw⟩
theorem impl_Peek (A : Option Addr) (c : Nat) (l : List Int) (a : Int) (w : World) (h : Bs w A l) (h0 : 0 ≤ a) (h1 : a < 65536) :
    Calls Try.prog 85 #[.agg #[.slice A l.length c], .int .u16 a] w fun e w' => e = .returned (.int .u8 (peek l a)) ∧ Below w.heap.size w w' := by
  obtain ⟨b, hb⟩ : ∃ b, ramSize l.length = b := ⟨_, rfl⟩
  cases b
  · have HB := hR w; go_enter Try.func85, Try.ntmps85
    go_wp2_with (first | (go_at_call 34; ((with_reducible refine (impl_RamOk _ _ _ _).mono ?_); rintro _ w1 ⟨rfl, hb⟩; have HB := Aside0.mk (below_step (w := w) blw hb); have hz := hb.size; obtain ⟨hcl, hfr, hlt, _⟩ := bcell hb; simp only [sA, sC, sD] at hz hcl hfr hlt; clear hb)))
    go_ret
    exact ⟨ret_of (by simp [peek, hb]), blw⟩
  · have hs := ramSize_le hb
    have hp : 0 ≤ a % l.length := Int.emod_nonneg _ (by omega)
    have hq : a % l.length < l.length := Int.emod_lt_of_pos _ (by omega)
    obtain ⟨ad, rfl, hx⟩ := h.at _ hp hq
    have HB := hR w; go_enter Try.func85, Try.ntmps85
    go_wp2_with (first | (go_at_call 34; ((with_reducible refine (impl_RamOk _ _ _ _).mono ?_); rintro _ w1 ⟨rfl, hb⟩; have HB := Aside0.mk (below_step (w := w) blw hb); have hz := hb.size; obtain ⟨hcl, hfr, hlt, _⟩ := bcell hb; simp only [sA, sC, sD] at hz hcl hfr hlt; clear hb)))
    have hx1 : w1.cell? (ad.add (a % l.length).toNat) = some (.int .u8 (rd l (a % l.length))) := (HB.out.cell (World.block_lt_of_cell? w _ hx)).trans hx
    have hx2 := World.block_lt_of_cell? w1 _ hx1
    go_region_held3 (fun w' => Below w.heap.size w w' ∧ w'.cell? ⟨w.heap.size, 0, none⟩ = some (.slice (some ad) l.length c) ∧ w'.cell? (ad.add (a % l.length).toNat) = some (.int .u8 (rd l (a % l.length)))) (first | (go_keep; done) | (go_split_ands; (repeat' apply And.intro) <;> (first | (with_reducible assumption) | (go_simp; done) | (exact cell_keep blw (by assumption)) | exact blw))) (first | (go_at_call 97; ((with_reducible refine (impl_at _ _ _ _ _ h0 h1 (by omega) (by omega)).mono ?_); rintro _ w1 ⟨rfl, hb⟩; have HB := Aside0.mk (below_step (w := w) blw hb); have hz := hb.size; obtain ⟨hcl, hfr, hlt, _⟩ := bcell hb; simp only [sA, sC, sD] at hz hcl hfr hlt; clear hb)))
    go_wp2
    go_ret
    exact ⟨ret_of (by simp [peek, hb]), blw⟩
theorem spec_RamOk (A : Option Addr) (c : Nat) (l : List Int) (w : World) : Calls Try.prog 29 #[.agg #[.slice A l.length c]] w fun e w' => e = .returned (.bool (ramSize l.length)) ∧ Below w.heap.size w w' := by
  obtain ⟨n, hn⟩ : ∃ n, l.length = n := ⟨_, rfl⟩
  rw [hn]
  unfold ramSize
  have HB := hR w; go_enter Try.func29, Try.ntmps29
  go_wp2
  all_goals go_ret
  all_goals exact ⟨ret_of (by simp [*]), blw⟩
end Go.Proofs.Ytghmeghbekkanaa
