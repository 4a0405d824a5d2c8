/- The text of an operation, by the program and the reference. -/
import Derived.Test.YthlmddcjbhacmaaDoorHex
import Derived.Deep.RegionHeld3
set_option linter.unusedVariables false
set_option linter.unusedSimpArgs false
namespace Go.Proofs.YthlmddcjbhacmaaDoor
open Go.RowKit Go.Proofs.YthlmddcjbhacmaaDoorW.PrintWords
def tgt (pc b : Int) : Int := (pc + 2 + (if 128 ≤ b then b - 256 else b)) % 65536
def opT (m b1 b2 pc : Int) : List UInt8 :=
  if m = 1 then [65] else if m = 2 then 35 :: 36 :: hexL b1 2 else if m = 3 then 36 :: hexL b1 2 else if m = 4 then 36 :: hexL b1 2 ++ [44, 88] else if m = 5 then 36 :: hexL b1 2 ++ [44, 89]
  else if m = 6 then 36 :: hexL b2 2 ++ hexL b1 2 else if m = 7 then 36 :: hexL b2 2 ++ hexL b1 2 ++ [44, 88] else if m = 8 then 36 :: hexL b2 2 ++ hexL b1 2 ++ [44, 89] else if m = 9 then 40 :: 36 :: hexL b2 2 ++ hexL b1 2 ++ [41]
  else if m = 10 then 40 :: 36 :: hexL b1 2 ++ [44, 88, 41] else if m = 11 then 40 :: 36 :: hexL b1 2 ++ [41, 44, 89] else 36 :: hexL (tgt pc b1) 4
def showT (l : List Int) (pc : Int) : List UInt8 := if mdI (rd l 0) = 0 then nmL (rd l 0) else nmL (rd l 0) ++ 32 :: opT (mdI (rd l 0)) (rd l 1) (rd l 2) pc
theorem hexL_two (a b : Int) (h0 : 0 ≤ a) (h1 : a < 256) : hexL (a + 256 * b) 4 = hexL b 2 ++ hexL a 2 := by
  have e1 : (a + 256 * b) / 16 / 16 = b := by omega
  have e2 : hexd ((a + 256 * b) / 16) = hexd (a / 16) := by unfold hexd; congr 2; omega
  have e3 : hexd (a + 256 * b) = hexd a := by unfold hexd; congr 2; omega
  simp only [hexL, e1, e2, e3]
  simp
theorem impl_target (pc b : Int) (w : World) (p0 : 0 ≤ pc) (p1 : pc < 65536) (h0 : 0 ≤ b) (h1 : b < 256) :
    Calls Tryd.prog 85 #[.int .u16 pc, .int .u8 b] w fun e w' => e = .returned (.int .u16 (tgt pc b)) ∧ w = w' := by
  have HB := hR w; go_enter Tryd.func85, Tryd.ntmps85
  go_wp2
  go_ret
  refine ⟨ret_of ?_, rfl⟩
  have e1 : IntKind.i8.wrap b = (if 128 ≤ b then b - 256 else b) := by simp [IntKind.wrap, IntKind.bits, IntKind.signed]; split <;> omega
  have e2 : ∀ x : Int, -128 ≤ x → x < 128 → IntKind.i16.wrap x = x := fun x _ _ => by simp [IntKind.wrap, IntKind.bits, IntKind.signed]; omega
  show Value.int .u16 (IntKind.u16.wrap (IntKind.u16.wrap (pc + 2) + IntKind.u16.wrap (IntKind.i16.wrap (IntKind.i8.wrap b)))) = _
  rw [e1, e2 _ (by split <;> omega) (by split <;> omega)]
  unfold tgt
  rw [IntKind.wrap_u16, IntKind.wrap_u16, IntKind.wrap_u16]
  congr 1
  split <;> omega
theorem spec_l04Word (a b : Int) (w : World) (h0 : 0 ≤ a) (h1 : a < 256) (g0 : 0 ≤ b) (g1 : b < 256) :
    Calls Tryd.prog 53 #[.int .u8 a, .int .u8 b] w fun e w' => e = .returned (.int .i64 (a + 256 * b)) ∧ w = w' := by
  have HB := hR w; go_enter Tryd.func53, Tryd.ntmps53
  go_wp2
  go_ret
  exact ⟨rfl, rfl⟩
theorem spec_l04Offset (b : Int) (w : World) (h0 : 0 ≤ b) (h1 : b < 256) :
    Calls Tryd.prog 54 #[.int .u8 b] w fun e w' => e = .returned (.int .i64 (if 128 ≤ b then b - 256 else b)) ∧ w = w' := by
  by_cases h : 128 ≤ b
  · rw [if_pos h]
    have HB := hR w; go_enter Tryd.func54, Tryd.ntmps54
    go_wp2
    go_ret
    exact ⟨rfl, rfl⟩
  · rw [if_neg h]
    have HB := hR w; go_enter Tryd.func54, Tryd.ntmps54
    go_wp2
    go_ret
    exact ⟨rfl, rfl⟩
theorem Bs.at0 {w : World} {A : Option Addr} {l : List Int} (h : Bs w A l) (hp : 0 < l.length) : ∃ ad, A = some ad ∧ w.cell? ad = some (.int .u8 (rd l 0)) := by
  obtain ⟨ad, e, hx⟩ := h.at 0 (by omega) (by omega)
  exact ⟨ad, e, by simpa [Addr.add] using hx⟩
theorem Bs.at1 {w : World} {A : Option Addr} {l : List Int} (h : Bs w A l) (hp : 1 < l.length) : ∃ ad, A = some ad ∧ w.cell? ad = some (.int .u8 (rd l 0)) ∧ w.cell? ⟨ad.block, ad.off + 1, none⟩ = some (.int .u8 (rd l 1)) := by
  obtain ⟨ad, rfl, hx⟩ := h.at0 (by omega)
  obtain ⟨ad', e, hy⟩ := h.at 1 (by omega) (by omega)
  injection e with e
  subst e
  exact ⟨ad, rfl, hx, by simpa [Addr.add] using hy⟩
theorem Bs.at2 {w : World} {A : Option Addr} {l : List Int} (h : Bs w A l) (hp : 2 < l.length) : ∃ ad, A = some ad ∧ w.cell? ad = some (.int .u8 (rd l 0)) ∧ w.cell? ⟨ad.block, ad.off + 1, none⟩ = some (.int .u8 (rd l 1)) ∧ w.cell? ⟨ad.block, ad.off + 2, none⟩ = some (.int .u8 (rd l 2)) := by
  obtain ⟨ad, rfl, hx, hy⟩ := h.at1 (by omega)
  obtain ⟨ad', e, hz⟩ := h.at 2 (by omega) (by omega)
  injection e with e
  subst e
  exact ⟨ad, rfl, hx, hy, by simpa [Addr.add] using hz⟩
theorem impl_isWhole (A : Option Addr) (l : List Int) (n : Nat) (w : World) (h : Bs w A l) (hl : (l.length : Int) = sizeM (mdI (rd l 0))) (hp : 0 < l.length) (he : Env w) :
    Calls Tryd.prog 58 #[.slice A l.length n] w fun e w' => e = .returned (.bool true) ∧ Below w.heap.size w w' := by
  have hb := h.b 0
  obtain ⟨ad, rfl, hx⟩ := h.at0 hp
  have hs := fun W e => impl_SizeOf (rd l 0) W hb.1 hb.2 e
  rw [← hl] at hs
  obtain ⟨c, hc⟩ : ∃ c, rd l 0 = c := ⟨_, rfl⟩
  rw [hc] at hs hx hb
  have hp2 : (0 : Int) < (l.length : Int) := by omega
  have hlt := World.block_lt_of_cell? w _ hx
  clear hl hc
  have HB := hR w; go_enter Tryd.func58, Tryd.ntmps58
  go_wp2_with fail
  refine (hs _ he).mono ?_
  rintro _ w1 ⟨rfl, hb⟩
  (have HB := Aside0.mk (below_step (w := w) blw hb); have hz1 := hb.size; obtain ⟨hcl1, hfr1, hlt1, _⟩ := bcell hb; (try simp only [sA, sC, sD] at hz1); (try simp only [sA, sC, sD] at hcl1 hfr1 hlt1); have HB1 := hR w1; clear hb)
  go_wp2_with fail
  refine (hs _ (he.below HB.out)).mono ?_
  rintro _ w2 ⟨rfl, hb⟩
  (have HB := Aside0.mk (below_step (w := w) blw hb); have hz2 := hb.size; obtain ⟨hcl2, hfr2, hlt2, _⟩ := bcell hb; (try simp only [sA, sC, sD] at hz2); (try simp only [sA, sC, sD] at hcl2 hfr2 hlt2); have HB2 := hR w2; clear hb)
  go_wp2_with fail
  go_ret
  exact ⟨rfl, blw⟩
set_option maxHeartbeats 1000000 in
theorem impl_operand (A : Option Addr) (l : List Int) (n : Nat) (m pc : Int) (w : World) (h : Bs w A l) (m0 : 1 ≤ m) (m1 : m ≤ 12) (hl : (l.length : Int) = sizeM m) (p0 : 0 ≤ pc) (p1 : pc < 65536) :
    Calls Tryd.prog 59 #[.int .i64 m, .slice A l.length n, .int .u16 pc] w fun e w' => e = .returned (.string ⟨(opT m (rd l 1) (rd l 2) pc).toArray⟩) ∧ Below w.heap.size w w' := by
  have b1 := h.b 1
  have b2 := h.b 2
  have k1 : IntKind.i64.wrap (rd l 1) = rd l 1 := w64 (by omega)
  have k2 : IntKind.i64.wrap (rd l 2) = rd l 2 := w64 (by omega)
  have q1 := hexL_len 2 (rd l 1)
  have q2 := hexL_len 2 (rd l 2)
  have q4 := hexL_len 4 (tgt pc (rd l 1))
  have t0 : 0 ≤ tgt pc (rd l 1) ∧ tgt pc (rd l 1) < 65536 := by unfold tgt; omega
  have hx1 := fun W => impl_Hex2 (rd l 1) W b1.1 (by omega)
  have hx2 := fun W => impl_Hex2 (rd l 2) W b2.1 (by omega)
  have hx4 := fun W => impl_Hex4 (tgt pc (rd l 1)) W t0.1 t0.2
  have htg := fun W => impl_target pc (rd l 1) W p0 p1 b1.1 b1.2
  have hm : m = 1 ∨ (m = 2 ∨ m = 3 ∨ m = 4 ∨ m = 5 ∨ m = 10 ∨ m = 11) ∨ (m = 6 ∨ m = 7 ∨ m = 8 ∨ m = 9) ∨ m = 12 := by omega
  rcases hm with rfl | hm | hm | rfl
  · rw [show sizeM 1 = 1 from rfl] at hl
    have HB := hR w; go_enter Tryd.func59, Tryd.ntmps59
    go_wp2_with fail
    go_ret
    exact ⟨rfl, blw⟩
  · obtain ⟨ad, rfl, _, hx⟩ := h.at1 (by rcases hm with rfl | rfl | rfl | rfl | rfl | rfl <;> simp [sizeM] at hl <;> omega)
    rcases hm with rfl | rfl | rfl | rfl | rfl | rfl
    · rw [show sizeM 2 = 2 from rfl] at hl
      have HB := hR w; go_enter Tryd.func59, Tryd.ntmps59
      go_wp2_with fail
      refine (hx1 _).mono ?_
      rintro _ w1 ⟨rfl, hb⟩
      (have HB := Aside0.mk (below_step (w := w) blw hb); have hz1 := hb.size; obtain ⟨hcl1, hfr1, hlt1, _⟩ := bcell hb; (try simp only [sA, sC, sD] at hz1); (try simp only [sA, sC, sD] at hcl1 hfr1 hlt1); have HB1 := hR w1; clear hb)
      go_wp2_with fail
      go_ret
      exact ⟨ret_of (congrArg Value.string (by apply ByteArray.ext; simp [opT])), blw⟩
    · rw [show sizeM 3 = 2 from rfl] at hl
      have HB := hR w; go_enter Tryd.func59, Tryd.ntmps59
      go_wp2_with fail
      refine (hx1 _).mono ?_
      rintro _ w1 ⟨rfl, hb⟩
      (have HB := Aside0.mk (below_step (w := w) blw hb); have hz1 := hb.size; obtain ⟨hcl1, hfr1, hlt1, _⟩ := bcell hb; (try simp only [sA, sC, sD] at hz1); (try simp only [sA, sC, sD] at hcl1 hfr1 hlt1); have HB1 := hR w1; clear hb)
      go_wp2_with fail
      go_ret
      exact ⟨ret_of (congrArg Value.string (by apply ByteArray.ext; simp [opT])), blw⟩
    · rw [show sizeM 4 = 2 from rfl] at hl
      have HB := hR w; go_enter Tryd.func59, Tryd.ntmps59
      go_wp2_with fail
      refine (hx1 _).mono ?_
      rintro _ w1 ⟨rfl, hb⟩
      (have HB := Aside0.mk (below_step (w := w) blw hb); have hz1 := hb.size; obtain ⟨hcl1, hfr1, hlt1, _⟩ := bcell hb; (try simp only [sA, sC, sD] at hz1); (try simp only [sA, sC, sD] at hcl1 hfr1 hlt1); have HB1 := hR w1; clear hb)
      go_wp2_with fail
      go_ret
      exact ⟨ret_of (congrArg Value.string (by apply ByteArray.ext; simp [opT])), blw⟩
    · rw [show sizeM 5 = 2 from rfl] at hl
      have HB := hR w; go_enter Tryd.func59, Tryd.ntmps59
      go_wp2_with fail
      refine (hx1 _).mono ?_
      rintro _ w1 ⟨rfl, hb⟩
      (have HB := Aside0.mk (below_step (w := w) blw hb); have hz1 := hb.size; obtain ⟨hcl1, hfr1, hlt1, _⟩ := bcell hb; (try simp only [sA, sC, sD] at hz1); (try simp only [sA, sC, sD] at hcl1 hfr1 hlt1); have HB1 := hR w1; clear hb)
      go_wp2_with fail
      go_ret
      exact ⟨ret_of (congrArg Value.string (by apply ByteArray.ext; simp [opT])), blw⟩
    · rw [show sizeM 10 = 2 from rfl] at hl
      have HB := hR w; go_enter Tryd.func59, Tryd.ntmps59
      go_wp2_with fail
      refine (hx1 _).mono ?_
      rintro _ w1 ⟨rfl, hb⟩
      (have HB := Aside0.mk (below_step (w := w) blw hb); have hz1 := hb.size; obtain ⟨hcl1, hfr1, hlt1, _⟩ := bcell hb; (try simp only [sA, sC, sD] at hz1); (try simp only [sA, sC, sD] at hcl1 hfr1 hlt1); have HB1 := hR w1; clear hb)
      go_wp2_with fail
      go_ret
      exact ⟨ret_of (congrArg Value.string (by apply ByteArray.ext; simp [opT])), blw⟩
    · rw [show sizeM 11 = 2 from rfl] at hl
      have HB := hR w; go_enter Tryd.func59, Tryd.ntmps59
      go_wp2_with fail
      refine (hx1 _).mono ?_
      rintro _ w1 ⟨rfl, hb⟩
      (have HB := Aside0.mk (below_step (w := w) blw hb); have hz1 := hb.size; obtain ⟨hcl1, hfr1, hlt1, _⟩ := bcell hb; (try simp only [sA, sC, sD] at hz1); (try simp only [sA, sC, sD] at hcl1 hfr1 hlt1); have HB1 := hR w1; clear hb)
      go_wp2_with fail
      go_ret
      exact ⟨ret_of (congrArg Value.string (by apply ByteArray.ext; simp [opT])), blw⟩
  · obtain ⟨ad, rfl, _, hx, hy⟩ := h.at2 (by rcases hm with rfl | rfl | rfl | rfl <;> simp [sizeM] at hl <;> omega)
    rcases hm with rfl | rfl | rfl | rfl
    · rw [show sizeM 6 = 3 from rfl] at hl
      have HB := hR w; go_enter Tryd.func59, Tryd.ntmps59
      go_wp2_with fail
      refine (hx1 _).mono ?_
      rintro _ w1 ⟨rfl, hb⟩
      (have HB := Aside0.mk (below_step (w := w) blw hb); have hz1 := hb.size; obtain ⟨hcl1, hfr1, hlt1, _⟩ := bcell hb; (try simp only [sA, sC, sD] at hz1); (try simp only [sA, sC, sD] at hcl1 hfr1 hlt1); have HB1 := hR w1; clear hb)
      have hx1' := cell_keep HB.out hx
      have hy1' := cell_keep HB.out hy
      go_wp2_with fail
      go_region_held3 (fun w' => w'.cell? ⟨ad.block, ad.off + 1, none⟩ = some (.int .u8 (rd l 1)) ∧ w'.cell? ⟨ad.block, ad.off + 2, none⟩ = some (.int .u8 (rd l 2))) (first | (go_keep; done) | (go_split_ands; (repeat' apply And.intro) <;> (first | (with_reducible assumption) | (go_simp; done) | (exact cell_keep blw (by assumption)) | exact blw))) (first | (go_at_call 84; ((with_reducible refine (hx1 _).mono ?_); rintro _ w2 ⟨rfl, hb⟩; have HB := Aside0.mk (below_step (w := w) blw hb); have hz2 := hb.size; obtain ⟨hcl2, hfr2, hlt2, _⟩ := bcell hb; (try simp only [sA, sC, sD] at hz2); (try simp only [sA, sC, sD] at hcl2 hfr2 hlt2); have HB2 := hR w2; clear hb; have ex2 := cell_keep HB.out hx; have ey2 := cell_keep HB.out hy)) | (go_at_call 84; ((with_reducible refine (hx2 _).mono ?_); rintro _ w3 ⟨rfl, hb⟩; have HB := Aside0.mk (below_step (w := w) blw hb); have hz3 := hb.size; obtain ⟨hcl3, hfr3, hlt3, _⟩ := bcell hb; (try simp only [sA, sC, sD] at hz3); (try simp only [sA, sC, sD] at hcl3 hfr3 hlt3); have HB3 := hR w3; clear hb; have ex3 := cell_keep HB.out hx; have ey3 := cell_keep HB.out hy)))
      go_wp2_with fail
      go_ret
      exact ⟨ret_of (congrArg Value.string (by apply ByteArray.ext; simp [opT])), blw⟩
    · rw [show sizeM 7 = 3 from rfl] at hl
      have HB := hR w; go_enter Tryd.func59, Tryd.ntmps59
      go_wp2_with fail
      refine (hx1 _).mono ?_
      rintro _ w1 ⟨rfl, hb⟩
      (have HB := Aside0.mk (below_step (w := w) blw hb); have hz1 := hb.size; obtain ⟨hcl1, hfr1, hlt1, _⟩ := bcell hb; (try simp only [sA, sC, sD] at hz1); (try simp only [sA, sC, sD] at hcl1 hfr1 hlt1); have HB1 := hR w1; clear hb)
      have hx1' := cell_keep HB.out hx
      have hy1' := cell_keep HB.out hy
      go_wp2_with fail
      go_region_held3 (fun w' => w'.cell? ⟨ad.block, ad.off + 1, none⟩ = some (.int .u8 (rd l 1)) ∧ w'.cell? ⟨ad.block, ad.off + 2, none⟩ = some (.int .u8 (rd l 2))) (first | (go_keep; done) | (go_split_ands; (repeat' apply And.intro) <;> (first | (with_reducible assumption) | (go_simp; done) | (exact cell_keep blw (by assumption)) | exact blw))) (first | (go_at_call 84; ((with_reducible refine (hx1 _).mono ?_); rintro _ w2 ⟨rfl, hb⟩; have HB := Aside0.mk (below_step (w := w) blw hb); have hz2 := hb.size; obtain ⟨hcl2, hfr2, hlt2, _⟩ := bcell hb; (try simp only [sA, sC, sD] at hz2); (try simp only [sA, sC, sD] at hcl2 hfr2 hlt2); have HB2 := hR w2; clear hb; have ex2 := cell_keep HB.out hx; have ey2 := cell_keep HB.out hy)) | (go_at_call 84; ((with_reducible refine (hx2 _).mono ?_); rintro _ w3 ⟨rfl, hb⟩; have HB := Aside0.mk (below_step (w := w) blw hb); have hz3 := hb.size; obtain ⟨hcl3, hfr3, hlt3, _⟩ := bcell hb; (try simp only [sA, sC, sD] at hz3); (try simp only [sA, sC, sD] at hcl3 hfr3 hlt3); have HB3 := hR w3; clear hb; have ex3 := cell_keep HB.out hx; have ey3 := cell_keep HB.out hy)))
      go_wp2_with fail
      go_ret
      exact ⟨ret_of (congrArg Value.string (by apply ByteArray.ext; simp [opT])), blw⟩
    · rw [show sizeM 8 = 3 from rfl] at hl
      have HB := hR w; go_enter Tryd.func59, Tryd.ntmps59
      go_wp2_with fail
      refine (hx1 _).mono ?_
      rintro _ w1 ⟨rfl, hb⟩
      (have HB := Aside0.mk (below_step (w := w) blw hb); have hz1 := hb.size; obtain ⟨hcl1, hfr1, hlt1, _⟩ := bcell hb; (try simp only [sA, sC, sD] at hz1); (try simp only [sA, sC, sD] at hcl1 hfr1 hlt1); have HB1 := hR w1; clear hb)
      have hx1' := cell_keep HB.out hx
      have hy1' := cell_keep HB.out hy
      go_wp2_with fail
      go_region_held3 (fun w' => w'.cell? ⟨ad.block, ad.off + 1, none⟩ = some (.int .u8 (rd l 1)) ∧ w'.cell? ⟨ad.block, ad.off + 2, none⟩ = some (.int .u8 (rd l 2))) (first | (go_keep; done) | (go_split_ands; (repeat' apply And.intro) <;> (first | (with_reducible assumption) | (go_simp; done) | (exact cell_keep blw (by assumption)) | exact blw))) (first | (go_at_call 84; ((with_reducible refine (hx1 _).mono ?_); rintro _ w2 ⟨rfl, hb⟩; have HB := Aside0.mk (below_step (w := w) blw hb); have hz2 := hb.size; obtain ⟨hcl2, hfr2, hlt2, _⟩ := bcell hb; (try simp only [sA, sC, sD] at hz2); (try simp only [sA, sC, sD] at hcl2 hfr2 hlt2); have HB2 := hR w2; clear hb; have ex2 := cell_keep HB.out hx; have ey2 := cell_keep HB.out hy)) | (go_at_call 84; ((with_reducible refine (hx2 _).mono ?_); rintro _ w3 ⟨rfl, hb⟩; have HB := Aside0.mk (below_step (w := w) blw hb); have hz3 := hb.size; obtain ⟨hcl3, hfr3, hlt3, _⟩ := bcell hb; (try simp only [sA, sC, sD] at hz3); (try simp only [sA, sC, sD] at hcl3 hfr3 hlt3); have HB3 := hR w3; clear hb; have ex3 := cell_keep HB.out hx; have ey3 := cell_keep HB.out hy)))
      go_wp2_with fail
      go_ret
      exact ⟨ret_of (congrArg Value.string (by apply ByteArray.ext; simp [opT])), blw⟩
    · rw [show sizeM 9 = 3 from rfl] at hl
      have HB := hR w; go_enter Tryd.func59, Tryd.ntmps59
      go_wp2_with fail
      refine (hx1 _).mono ?_
      rintro _ w1 ⟨rfl, hb⟩
      (have HB := Aside0.mk (below_step (w := w) blw hb); have hz1 := hb.size; obtain ⟨hcl1, hfr1, hlt1, _⟩ := bcell hb; (try simp only [sA, sC, sD] at hz1); (try simp only [sA, sC, sD] at hcl1 hfr1 hlt1); have HB1 := hR w1; clear hb)
      have hx1' := cell_keep HB.out hx
      have hy1' := cell_keep HB.out hy
      go_wp2_with fail
      go_region_held3 (fun w' => w'.cell? ⟨ad.block, ad.off + 1, none⟩ = some (.int .u8 (rd l 1)) ∧ w'.cell? ⟨ad.block, ad.off + 2, none⟩ = some (.int .u8 (rd l 2))) (first | (go_keep; done) | (go_split_ands; (repeat' apply And.intro) <;> (first | (with_reducible assumption) | (go_simp; done) | (exact cell_keep blw (by assumption)) | exact blw))) (first | (go_at_call 84; ((with_reducible refine (hx1 _).mono ?_); rintro _ w2 ⟨rfl, hb⟩; have HB := Aside0.mk (below_step (w := w) blw hb); have hz2 := hb.size; obtain ⟨hcl2, hfr2, hlt2, _⟩ := bcell hb; (try simp only [sA, sC, sD] at hz2); (try simp only [sA, sC, sD] at hcl2 hfr2 hlt2); have HB2 := hR w2; clear hb; have ex2 := cell_keep HB.out hx; have ey2 := cell_keep HB.out hy)) | (go_at_call 84; ((with_reducible refine (hx2 _).mono ?_); rintro _ w3 ⟨rfl, hb⟩; have HB := Aside0.mk (below_step (w := w) blw hb); have hz3 := hb.size; obtain ⟨hcl3, hfr3, hlt3, _⟩ := bcell hb; (try simp only [sA, sC, sD] at hz3); (try simp only [sA, sC, sD] at hcl3 hfr3 hlt3); have HB3 := hR w3; clear hb; have ex3 := cell_keep HB.out hx; have ey3 := cell_keep HB.out hy)))
      go_wp2_with fail
      go_ret
      exact ⟨ret_of (congrArg Value.string (by apply ByteArray.ext; simp [opT])), blw⟩
  · obtain ⟨ad, rfl, _, hx⟩ := h.at1 (by simp [sizeM] at hl; omega)
    rw [show sizeM 12 = 2 from rfl] at hl
    have HB := hR w; go_enter Tryd.func59, Tryd.ntmps59
    go_wp2_with fail
    refine (hx1 _).mono ?_
    rintro _ w1 ⟨rfl, hb⟩
    (have HB := Aside0.mk (below_step (w := w) blw hb); have hz1 := hb.size; obtain ⟨hcl1, hfr1, hlt1, _⟩ := bcell hb; (try simp only [sA, sC, sD] at hz1); (try simp only [sA, sC, sD] at hcl1 hfr1 hlt1); have HB1 := hR w1; clear hb)
    have hx1' := cell_keep HB.out hx
    go_wp2_with fail
    refine (htg _).mono ?_
    rintro _ _ ⟨rfl, rfl⟩
    go_wp2_with fail
    refine (hx4 _).mono ?_
    rintro _ w2 ⟨rfl, hb⟩
    (have HB := Aside0.mk (below_step (w := w) blw hb); have hz2 := hb.size; obtain ⟨hcl2, hfr2, hlt2, _⟩ := bcell hb; (try simp only [sA, sC, sD] at hz2); (try simp only [sA, sC, sD] at hcl2 hfr2 hlt2); have HB2 := hR w2; clear hb)
    go_wp2_with fail
    go_ret
    exact ⟨ret_of (congrArg Value.string (by apply ByteArray.ext; simp [opT])), blw⟩
theorem opT_len (m b1 b2 pc : Int) : (opT m b1 b2 pc).length ≤ 12 := by
  unfold opT
  repeat' split
  all_goals simp [hexL_len]
theorem nmL_len : ∀ c : Nat, c < 256 → (nmL c).length ≤ 3 := by decide +kernel
theorem impl_ShowOp (A : Option Addr) (l : List Int) (n : Nat) (pc : Int) (w : World) (h : Bs w A l) (hl : (l.length : Int) = sizeM (mdI (rd l 0))) (hp : 0 < l.length) (hn : l.length ≤ n) (p0 : 0 ≤ pc) (p1 : pc < 65536) (he : Env w) :
    Calls Tryd.prog 29 #[.slice A l.length n, .int .u16 pc] w fun e w' => e = .returned (.string ⟨(showT l pc).toArray⟩) ∧ Below w.heap.size w w' := by
  have hb := h.b 0
  have hiw := impl_isWhole A l n w h hl hp he
  have hop := fun W e => impl_operation (rd l 0) W hb.1 hb.2 e
  have hs := fun W e => impl_SizeOf (rd l 0) W hb.1 hb.2 e
  rw [← hl] at hs
  obtain ⟨m0, m1⟩ := of_byte (p := fun c => -1 ≤ mdI c ∧ mdI c ≤ 12) mdI_b (rd l 0) hb.1 hb.2
  have hn3 := of_byte (p := fun c => (nmL c).length ≤ 3) nmL_len (rd l 0) hb.1 hb.2
  have m2 : mdI (rd l 0) ≠ -1 := by
    intro e
    rw [e, show sizeM (-1) = 0 from rfl] at hl
    omega
  have hopd := fun W (hw : Bs W A l) (hm : 1 ≤ mdI (rd l 0)) => impl_operand A l n (mdI (rd l 0)) pc W hw hm m1 hl p0 p1
  have ho12 := opT_len (mdI (rd l 0)) (rd l 1) (rd l 2) pc
  obtain ⟨ad, rfl, hx⟩ := h.at0 hp
  have BS := Aside0.mk h
  unfold showT
  generalize opT (mdI (rd l 0)) (rd l 1) (rd l 2) pc = o at *
  generalize nmL (rd l 0) = nm at *
  generalize mdI (rd l 0) = m at *
  generalize rd l 0 = c at *
  have hp1 : (0 : Int) < l.length := by omega
  clear hl h
  by_cases h0 : m = 0
  · subst h0
    rw [if_pos rfl]
    have HB := hR w; go_enter Tryd.func29, Tryd.ntmps29
    go_wp2_with fail
    refine (hiw).mono ?_
    rintro _ w1 ⟨rfl, hb⟩
    (have HB := Aside0.mk (below_step (w := w) blw hb); have hz1 := hb.size; obtain ⟨hcl1, hfr1, hlt1, _⟩ := bcell hb; (try simp only [sA, sC, sD] at hz1); (try simp only [sA, sC, sD] at hcl1 hfr1 hlt1); have HB1 := hR w1; clear hb)
    have hx1 := cell_keep HB.out hx
    go_wp2_with fail
    refine (hop _ (he.below HB.out)).mono ?_
    rintro _ w2 ⟨rfl, hb⟩
    (have HB := Aside0.mk (below_step (w := w) blw hb); have hz2 := hb.size; obtain ⟨hcl2, hfr2, hlt2, _⟩ := bcell hb; (try simp only [sA, sC, sD] at hz2); (try simp only [sA, sC, sD] at hcl2 hfr2 hlt2); have HB2 := hR w2; clear hb)
    go_wp2_with fail
    go_ret
    exact ⟨rfl, blw⟩
  · rw [if_neg h0]
    have HB := hR w; go_enter Tryd.func29, Tryd.ntmps29
    go_wp2_with fail
    refine (hiw).mono ?_
    rintro _ w1 ⟨rfl, hb⟩
    (have HB := Aside0.mk (below_step (w := w) blw hb); have hz1 := hb.size; obtain ⟨hcl1, hfr1, hlt1, _⟩ := bcell hb; (try simp only [sA, sC, sD] at hz1); (try simp only [sA, sC, sD] at hcl1 hfr1 hlt1); have HB1 := hR w1; clear hb)
    have hx1 := cell_keep HB.out hx
    go_wp2_with fail
    refine (hop _ (he.below HB.out)).mono ?_
    rintro _ w2 ⟨rfl, hb⟩
    (have HB := Aside0.mk (below_step (w := w) blw hb); have hz2 := hb.size; obtain ⟨hcl2, hfr2, hlt2, _⟩ := bcell hb; (try simp only [sA, sC, sD] at hz2); (try simp only [sA, sC, sD] at hcl2 hfr2 hlt2); have HB2 := hR w2; clear hb)
    have hx2 := cell_keep HB.out hx
    go_wp2_with fail
    refine (hs _ (he.below HB.out)).mono ?_
    rintro _ w3 ⟨rfl, hb⟩
    (have HB := Aside0.mk (below_step (w := w) blw hb); have hz3 := hb.size; obtain ⟨hcl3, hfr3, hlt3, _⟩ := bcell hb; (try simp only [sA, sC, sD] at hz3); (try simp only [sA, sC, sD] at hcl3 hfr3 hlt3); have HB3 := hR w3; clear hb)
    go_wp2_with fail
    refine (hopd _ (BS.out.below HB.out) (by omega)).mono ?_
    rintro _ w4 ⟨rfl, hb⟩
    (have HB := Aside0.mk (below_step (w := w) blw hb); have hz4 := hb.size; obtain ⟨hcl4, hfr4, hlt4, _⟩ := bcell hb; (try simp only [sA, sC, sD] at hz4); (try simp only [sA, sC, sD] at hcl4 hfr4 hlt4); have HB4 := hR w4; clear hb)
    go_wp2_with fail
    go_ret
    exact ⟨ret_of (congrArg Value.string (by apply ByteArray.ext; simp)), blw⟩
set_option maxHeartbeats 1000000 in
theorem spec_ShowOp (A : Option Addr) (l : List Int) (n : Nat) (pc : Int) (w : World) (h : Bs w A l) (hl : (l.length : Int) = sizeM (mdI (rd l 0))) (hp : 0 < l.length) (p0 : 0 ≤ pc) (p1 : pc < 65536) :
    Calls Tryd.prog 23 #[.slice A l.length n, .int .u16 pc] w fun e w' => e = .returned (.string ⟨(showT l pc).toArray⟩) ∧ Below w.heap.size w w' := by
  have hb := h.b 0
  have b1 := h.b 1
  have b2 := h.b 2
  have hop := fun W => spec_NameOf (rd l 0) W hb.1 hb.2
  have hmd := fun W => spec_ModeOf (rd l 0) W hb.1 hb.2
  have hs := fun W => spec_SizeOf (rd l 0) W hb.1 hb.2
  rw [of_byte (p := fun c => nmS c = nmL c) nmSI (rd l 0) hb.1 hb.2] at hop
  rw [of_byte (p := fun c => mdS c = mdI c) mdSI (rd l 0) hb.1 hb.2] at hmd hs
  rw [← hl] at hs
  obtain ⟨m0, m1⟩ := of_byte (p := fun c => -1 ≤ mdI c ∧ mdI c ≤ 12) mdI_b (rd l 0) hb.1 hb.2
  have hn3 := of_byte (p := fun c => (nmL c).length ≤ 3) nmL_len (rd l 0) hb.1 hb.2
  have m2 : mdI (rd l 0) ≠ -1 := by
    intro e
    rw [e, show sizeM (-1) = 0 from rfl] at hl
    omega
  have k1 : IntKind.i64.wrap (rd l 1) = rd l 1 := w64 (by omega)
  have k2 : IntKind.i64.wrap (rd l 2) = rd l 2 := w64 (by omega)
  have q1 := hexL_len 2 (rd l 1)
  have q2 := hexL_len 2 (rd l 2)
  have q3 := hexL_len 4 (rd l 1 + 256 * rd l 2)
  have q4 := hexL_len 4 (tgt pc (rd l 1))
  have t0 : 0 ≤ tgt pc (rd l 1) ∧ tgt pc (rd l 1) < 65536 := by unfold tgt; omega
  have hx1 := fun W => spec_Hex2 (rd l 1) W b1.1 (by omega)
  have hx3 := fun W => spec_Hex4 (rd l 1 + 256 * rd l 2) W (by omega) (by omega)
  have hx4 := fun W => spec_Hex4 (tgt pc (rd l 1)) W t0.1 t0.2
  have hwd := fun W => spec_l04Word (rd l 1) (rd l 2) W b1.1 b1.2 b2.1 b2.2
  have hof := fun W => spec_l04Offset (rd l 1) W b1.1 b1.2
  have h65 := i64_and65535
  have e3 := hexL_two (rd l 1) (rd l 2) b1.1 b1.2
  unfold showT
  generalize nmL (rd l 0) = nm at *
  generalize mdI (rd l 0) = m at *
  have hp1 : (0 : Int) < l.length := by omega
  have hm : (m = 0 ∨ m = 1) ∨ (m = 2 ∨ m = 3 ∨ m = 4 ∨ m = 5 ∨ m = 10 ∨ m = 11) ∨ (m = 6 ∨ m = 7 ∨ m = 8 ∨ m = 9) ∨ m = 12 := by omega
  rcases hm with hm | hm | hm | rfl
  · obtain ⟨ad, rfl, hx⟩ := h.at0 hp
    rcases hm with rfl | rfl
    · rw [show sizeM 0 = 1 from rfl] at hl
      rw [if_pos rfl]
      have HB := hR w; go_enter Tryd.func23, Tryd.ntmps23
      go_wp2_with fail
      refine (hs _).mono ?_
      rintro _ w1 ⟨rfl, hb⟩
      (have HB := Aside0.mk (below_step (w := w) blw hb); have hz1 := hb.size; obtain ⟨hcl1, hfr1, hlt1, _⟩ := bcell hb; (try simp only [sA, sC, sD] at hz1); (try simp only [sA, sC, sD] at hcl1 hfr1 hlt1); have HB1 := hR w1; clear hb)
      have hx1' := cell_keep HB.out hx
      go_wp2_with fail
      refine (hs _).mono ?_
      rintro _ w2 ⟨rfl, hb⟩
      (have HB := Aside0.mk (below_step (w := w) blw hb); have hz2 := hb.size; obtain ⟨hcl2, hfr2, hlt2, _⟩ := bcell hb; (try simp only [sA, sC, sD] at hz2); (try simp only [sA, sC, sD] at hcl2 hfr2 hlt2); have HB2 := hR w2; clear hb)
      have hx2' := cell_keep HB.out hx
      go_wp2_with fail
      refine (hop _).mono ?_
      rintro _ w3 ⟨rfl, hb⟩
      (have HB := Aside0.mk (below_step (w := w) blw hb); have hz3 := hb.size; obtain ⟨hcl3, hfr3, hlt3, _⟩ := bcell hb; (try simp only [sA, sC, sD] at hz3); (try simp only [sA, sC, sD] at hcl3 hfr3 hlt3); have HB3 := hR w3; clear hb)
      have hx3' := cell_keep HB.out hx
      go_wp2_with fail
      refine (hmd _).mono ?_
      rintro _ w4 ⟨rfl, hb⟩
      (have HB := Aside0.mk (below_step (w := w) blw hb); have hz4 := hb.size; obtain ⟨hcl4, hfr4, hlt4, _⟩ := bcell hb; (try simp only [sA, sC, sD] at hz4); (try simp only [sA, sC, sD] at hcl4 hfr4 hlt4); have HB4 := hR w4; clear hb)
      go_wp2_with fail
      go_ret
      exact ⟨rfl, blw⟩
    · rw [show sizeM 1 = 1 from rfl] at hl
      rw [if_neg (by decide)]
      have HB := hR w; go_enter Tryd.func23, Tryd.ntmps23
      go_wp2_with fail
      refine (hs _).mono ?_
      rintro _ w1 ⟨rfl, hb⟩
      (have HB := Aside0.mk (below_step (w := w) blw hb); have hz1 := hb.size; obtain ⟨hcl1, hfr1, hlt1, _⟩ := bcell hb; (try simp only [sA, sC, sD] at hz1); (try simp only [sA, sC, sD] at hcl1 hfr1 hlt1); have HB1 := hR w1; clear hb)
      have hx1' := cell_keep HB.out hx
      go_wp2_with fail
      refine (hs _).mono ?_
      rintro _ w2 ⟨rfl, hb⟩
      (have HB := Aside0.mk (below_step (w := w) blw hb); have hz2 := hb.size; obtain ⟨hcl2, hfr2, hlt2, _⟩ := bcell hb; (try simp only [sA, sC, sD] at hz2); (try simp only [sA, sC, sD] at hcl2 hfr2 hlt2); have HB2 := hR w2; clear hb)
      have hx2' := cell_keep HB.out hx
      go_wp2_with fail
      refine (hop _).mono ?_
      rintro _ w3 ⟨rfl, hb⟩
      (have HB := Aside0.mk (below_step (w := w) blw hb); have hz3 := hb.size; obtain ⟨hcl3, hfr3, hlt3, _⟩ := bcell hb; (try simp only [sA, sC, sD] at hz3); (try simp only [sA, sC, sD] at hcl3 hfr3 hlt3); have HB3 := hR w3; clear hb)
      have hx3' := cell_keep HB.out hx
      go_wp2_with fail
      refine (hmd _).mono ?_
      rintro _ w4 ⟨rfl, hb⟩
      (have HB := Aside0.mk (below_step (w := w) blw hb); have hz4 := hb.size; obtain ⟨hcl4, hfr4, hlt4, _⟩ := bcell hb; (try simp only [sA, sC, sD] at hz4); (try simp only [sA, sC, sD] at hcl4 hfr4 hlt4); have HB4 := hR w4; clear hb)
      go_wp2_with fail
      go_ret
      exact ⟨ret_of (congrArg Value.string (by apply ByteArray.ext; simp [opT])), blw⟩
  · obtain ⟨ad, rfl, hx, hy⟩ := h.at1 (by rcases hm with rfl | rfl | rfl | rfl | rfl | rfl <;> simp [sizeM] at hl <;> omega)
    rcases hm with rfl | rfl | rfl | rfl | rfl | rfl
    · rw [show sizeM 2 = 2 from rfl] at hl
      rw [if_neg (by decide)]
      have HB := hR w; go_enter Tryd.func23, Tryd.ntmps23
      go_wp2_with fail
      refine (hs _).mono ?_
      rintro _ w1 ⟨rfl, hb⟩
      (have HB := Aside0.mk (below_step (w := w) blw hb); have hz1 := hb.size; obtain ⟨hcl1, hfr1, hlt1, _⟩ := bcell hb; (try simp only [sA, sC, sD] at hz1); (try simp only [sA, sC, sD] at hcl1 hfr1 hlt1); have HB1 := hR w1; clear hb)
      have hx1' := cell_keep HB.out hx
      go_wp2_with fail
      refine (hs _).mono ?_
      rintro _ w2 ⟨rfl, hb⟩
      (have HB := Aside0.mk (below_step (w := w) blw hb); have hz2 := hb.size; obtain ⟨hcl2, hfr2, hlt2, _⟩ := bcell hb; (try simp only [sA, sC, sD] at hz2); (try simp only [sA, sC, sD] at hcl2 hfr2 hlt2); have HB2 := hR w2; clear hb)
      have hx2' := cell_keep HB.out hx
      go_wp2_with fail
      refine (hop _).mono ?_
      rintro _ w3 ⟨rfl, hb⟩
      (have HB := Aside0.mk (below_step (w := w) blw hb); have hz3 := hb.size; obtain ⟨hcl3, hfr3, hlt3, _⟩ := bcell hb; (try simp only [sA, sC, sD] at hz3); (try simp only [sA, sC, sD] at hcl3 hfr3 hlt3); have HB3 := hR w3; clear hb)
      have hx3' := cell_keep HB.out hx
      have hy3 := cell_keep HB.out hy
      go_wp2_with fail
      refine (hx1 _).mono ?_
      rintro _ w4 ⟨rfl, hb⟩
      (have HB := Aside0.mk (below_step (w := w) blw hb); have hz4 := hb.size; obtain ⟨hcl4, hfr4, hlt4, _⟩ := bcell hb; (try simp only [sA, sC, sD] at hz4); (try simp only [sA, sC, sD] at hcl4 hfr4 hlt4); have HB4 := hR w4; clear hb)
      have hx4' := cell_keep HB.out hx
      go_wp2_with fail
      refine (hmd _).mono ?_
      rintro _ w5 ⟨rfl, hb⟩
      (have HB := Aside0.mk (below_step (w := w) blw hb); have hz5 := hb.size; obtain ⟨hcl5, hfr5, hlt5, _⟩ := bcell hb; (try simp only [sA, sC, sD] at hz5); (try simp only [sA, sC, sD] at hcl5 hfr5 hlt5); have HB5 := hR w5; clear hb)
      go_wp2_with fail
      go_ret
      exact ⟨ret_of (congrArg Value.string (by apply ByteArray.ext; simp [opT])), blw⟩
    · rw [show sizeM 3 = 2 from rfl] at hl
      rw [if_neg (by decide)]
      have HB := hR w; go_enter Tryd.func23, Tryd.ntmps23
      go_wp2_with fail
      refine (hs _).mono ?_
      rintro _ w1 ⟨rfl, hb⟩
      (have HB := Aside0.mk (below_step (w := w) blw hb); have hz1 := hb.size; obtain ⟨hcl1, hfr1, hlt1, _⟩ := bcell hb; (try simp only [sA, sC, sD] at hz1); (try simp only [sA, sC, sD] at hcl1 hfr1 hlt1); have HB1 := hR w1; clear hb)
      have hx1' := cell_keep HB.out hx
      go_wp2_with fail
      refine (hs _).mono ?_
      rintro _ w2 ⟨rfl, hb⟩
      (have HB := Aside0.mk (below_step (w := w) blw hb); have hz2 := hb.size; obtain ⟨hcl2, hfr2, hlt2, _⟩ := bcell hb; (try simp only [sA, sC, sD] at hz2); (try simp only [sA, sC, sD] at hcl2 hfr2 hlt2); have HB2 := hR w2; clear hb)
      have hx2' := cell_keep HB.out hx
      go_wp2_with fail
      refine (hop _).mono ?_
      rintro _ w3 ⟨rfl, hb⟩
      (have HB := Aside0.mk (below_step (w := w) blw hb); have hz3 := hb.size; obtain ⟨hcl3, hfr3, hlt3, _⟩ := bcell hb; (try simp only [sA, sC, sD] at hz3); (try simp only [sA, sC, sD] at hcl3 hfr3 hlt3); have HB3 := hR w3; clear hb)
      have hx3' := cell_keep HB.out hx
      have hy3 := cell_keep HB.out hy
      go_wp2_with fail
      refine (hx1 _).mono ?_
      rintro _ w4 ⟨rfl, hb⟩
      (have HB := Aside0.mk (below_step (w := w) blw hb); have hz4 := hb.size; obtain ⟨hcl4, hfr4, hlt4, _⟩ := bcell hb; (try simp only [sA, sC, sD] at hz4); (try simp only [sA, sC, sD] at hcl4 hfr4 hlt4); have HB4 := hR w4; clear hb)
      have hx4' := cell_keep HB.out hx
      go_wp2_with fail
      refine (hmd _).mono ?_
      rintro _ w5 ⟨rfl, hb⟩
      (have HB := Aside0.mk (below_step (w := w) blw hb); have hz5 := hb.size; obtain ⟨hcl5, hfr5, hlt5, _⟩ := bcell hb; (try simp only [sA, sC, sD] at hz5); (try simp only [sA, sC, sD] at hcl5 hfr5 hlt5); have HB5 := hR w5; clear hb)
      go_wp2_with fail
      go_ret
      exact ⟨ret_of (congrArg Value.string (by apply ByteArray.ext; simp [opT])), blw⟩
    · rw [show sizeM 4 = 2 from rfl] at hl
      rw [if_neg (by decide)]
      have HB := hR w; go_enter Tryd.func23, Tryd.ntmps23
      go_wp2_with fail
      refine (hs _).mono ?_
      rintro _ w1 ⟨rfl, hb⟩
      (have HB := Aside0.mk (below_step (w := w) blw hb); have hz1 := hb.size; obtain ⟨hcl1, hfr1, hlt1, _⟩ := bcell hb; (try simp only [sA, sC, sD] at hz1); (try simp only [sA, sC, sD] at hcl1 hfr1 hlt1); have HB1 := hR w1; clear hb)
      have hx1' := cell_keep HB.out hx
      go_wp2_with fail
      refine (hs _).mono ?_
      rintro _ w2 ⟨rfl, hb⟩
      (have HB := Aside0.mk (below_step (w := w) blw hb); have hz2 := hb.size; obtain ⟨hcl2, hfr2, hlt2, _⟩ := bcell hb; (try simp only [sA, sC, sD] at hz2); (try simp only [sA, sC, sD] at hcl2 hfr2 hlt2); have HB2 := hR w2; clear hb)
      have hx2' := cell_keep HB.out hx
      go_wp2_with fail
      refine (hop _).mono ?_
      rintro _ w3 ⟨rfl, hb⟩
      (have HB := Aside0.mk (below_step (w := w) blw hb); have hz3 := hb.size; obtain ⟨hcl3, hfr3, hlt3, _⟩ := bcell hb; (try simp only [sA, sC, sD] at hz3); (try simp only [sA, sC, sD] at hcl3 hfr3 hlt3); have HB3 := hR w3; clear hb)
      have hx3' := cell_keep HB.out hx
      have hy3 := cell_keep HB.out hy
      go_wp2_with fail
      refine (hx1 _).mono ?_
      rintro _ w4 ⟨rfl, hb⟩
      (have HB := Aside0.mk (below_step (w := w) blw hb); have hz4 := hb.size; obtain ⟨hcl4, hfr4, hlt4, _⟩ := bcell hb; (try simp only [sA, sC, sD] at hz4); (try simp only [sA, sC, sD] at hcl4 hfr4 hlt4); have HB4 := hR w4; clear hb)
      have hx4' := cell_keep HB.out hx
      go_wp2_with fail
      refine (hmd _).mono ?_
      rintro _ w5 ⟨rfl, hb⟩
      (have HB := Aside0.mk (below_step (w := w) blw hb); have hz5 := hb.size; obtain ⟨hcl5, hfr5, hlt5, _⟩ := bcell hb; (try simp only [sA, sC, sD] at hz5); (try simp only [sA, sC, sD] at hcl5 hfr5 hlt5); have HB5 := hR w5; clear hb)
      go_wp2_with fail
      go_ret
      exact ⟨ret_of (congrArg Value.string (by apply ByteArray.ext; simp [opT])), blw⟩
    · rw [show sizeM 5 = 2 from rfl] at hl
      rw [if_neg (by decide)]
      have HB := hR w; go_enter Tryd.func23, Tryd.ntmps23
      go_wp2_with fail
      refine (hs _).mono ?_
      rintro _ w1 ⟨rfl, hb⟩
      (have HB := Aside0.mk (below_step (w := w) blw hb); have hz1 := hb.size; obtain ⟨hcl1, hfr1, hlt1, _⟩ := bcell hb; (try simp only [sA, sC, sD] at hz1); (try simp only [sA, sC, sD] at hcl1 hfr1 hlt1); have HB1 := hR w1; clear hb)
      have hx1' := cell_keep HB.out hx
      go_wp2_with fail
      refine (hs _).mono ?_
      rintro _ w2 ⟨rfl, hb⟩
      (have HB := Aside0.mk (below_step (w := w) blw hb); have hz2 := hb.size; obtain ⟨hcl2, hfr2, hlt2, _⟩ := bcell hb; (try simp only [sA, sC, sD] at hz2); (try simp only [sA, sC, sD] at hcl2 hfr2 hlt2); have HB2 := hR w2; clear hb)
      have hx2' := cell_keep HB.out hx
      go_wp2_with fail
      refine (hop _).mono ?_
      rintro _ w3 ⟨rfl, hb⟩
      (have HB := Aside0.mk (below_step (w := w) blw hb); have hz3 := hb.size; obtain ⟨hcl3, hfr3, hlt3, _⟩ := bcell hb; (try simp only [sA, sC, sD] at hz3); (try simp only [sA, sC, sD] at hcl3 hfr3 hlt3); have HB3 := hR w3; clear hb)
      have hx3' := cell_keep HB.out hx
      have hy3 := cell_keep HB.out hy
      go_wp2_with fail
      refine (hx1 _).mono ?_
      rintro _ w4 ⟨rfl, hb⟩
      (have HB := Aside0.mk (below_step (w := w) blw hb); have hz4 := hb.size; obtain ⟨hcl4, hfr4, hlt4, _⟩ := bcell hb; (try simp only [sA, sC, sD] at hz4); (try simp only [sA, sC, sD] at hcl4 hfr4 hlt4); have HB4 := hR w4; clear hb)
      have hx4' := cell_keep HB.out hx
      go_wp2_with fail
      refine (hmd _).mono ?_
      rintro _ w5 ⟨rfl, hb⟩
      (have HB := Aside0.mk (below_step (w := w) blw hb); have hz5 := hb.size; obtain ⟨hcl5, hfr5, hlt5, _⟩ := bcell hb; (try simp only [sA, sC, sD] at hz5); (try simp only [sA, sC, sD] at hcl5 hfr5 hlt5); have HB5 := hR w5; clear hb)
      go_wp2_with fail
      go_ret
      exact ⟨ret_of (congrArg Value.string (by apply ByteArray.ext; simp [opT])), blw⟩
    · rw [show sizeM 10 = 2 from rfl] at hl
      rw [if_neg (by decide)]
      have HB := hR w; go_enter Tryd.func23, Tryd.ntmps23
      go_wp2_with fail
      refine (hs _).mono ?_
      rintro _ w1 ⟨rfl, hb⟩
      (have HB := Aside0.mk (below_step (w := w) blw hb); have hz1 := hb.size; obtain ⟨hcl1, hfr1, hlt1, _⟩ := bcell hb; (try simp only [sA, sC, sD] at hz1); (try simp only [sA, sC, sD] at hcl1 hfr1 hlt1); have HB1 := hR w1; clear hb)
      have hx1' := cell_keep HB.out hx
      go_wp2_with fail
      refine (hs _).mono ?_
      rintro _ w2 ⟨rfl, hb⟩
      (have HB := Aside0.mk (below_step (w := w) blw hb); have hz2 := hb.size; obtain ⟨hcl2, hfr2, hlt2, _⟩ := bcell hb; (try simp only [sA, sC, sD] at hz2); (try simp only [sA, sC, sD] at hcl2 hfr2 hlt2); have HB2 := hR w2; clear hb)
      have hx2' := cell_keep HB.out hx
      go_wp2_with fail
      refine (hop _).mono ?_
      rintro _ w3 ⟨rfl, hb⟩
      (have HB := Aside0.mk (below_step (w := w) blw hb); have hz3 := hb.size; obtain ⟨hcl3, hfr3, hlt3, _⟩ := bcell hb; (try simp only [sA, sC, sD] at hz3); (try simp only [sA, sC, sD] at hcl3 hfr3 hlt3); have HB3 := hR w3; clear hb)
      have hx3' := cell_keep HB.out hx
      have hy3 := cell_keep HB.out hy
      go_wp2_with fail
      refine (hx1 _).mono ?_
      rintro _ w4 ⟨rfl, hb⟩
      (have HB := Aside0.mk (below_step (w := w) blw hb); have hz4 := hb.size; obtain ⟨hcl4, hfr4, hlt4, _⟩ := bcell hb; (try simp only [sA, sC, sD] at hz4); (try simp only [sA, sC, sD] at hcl4 hfr4 hlt4); have HB4 := hR w4; clear hb)
      have hx4' := cell_keep HB.out hx
      go_wp2_with fail
      refine (hmd _).mono ?_
      rintro _ w5 ⟨rfl, hb⟩
      (have HB := Aside0.mk (below_step (w := w) blw hb); have hz5 := hb.size; obtain ⟨hcl5, hfr5, hlt5, _⟩ := bcell hb; (try simp only [sA, sC, sD] at hz5); (try simp only [sA, sC, sD] at hcl5 hfr5 hlt5); have HB5 := hR w5; clear hb)
      go_wp2_with fail
      go_ret
      exact ⟨ret_of (congrArg Value.string (by apply ByteArray.ext; simp [opT])), blw⟩
    · rw [show sizeM 11 = 2 from rfl] at hl
      rw [if_neg (by decide)]
      have HB := hR w; go_enter Tryd.func23, Tryd.ntmps23
      go_wp2_with fail
      refine (hs _).mono ?_
      rintro _ w1 ⟨rfl, hb⟩
      (have HB := Aside0.mk (below_step (w := w) blw hb); have hz1 := hb.size; obtain ⟨hcl1, hfr1, hlt1, _⟩ := bcell hb; (try simp only [sA, sC, sD] at hz1); (try simp only [sA, sC, sD] at hcl1 hfr1 hlt1); have HB1 := hR w1; clear hb)
      have hx1' := cell_keep HB.out hx
      go_wp2_with fail
      refine (hs _).mono ?_
      rintro _ w2 ⟨rfl, hb⟩
      (have HB := Aside0.mk (below_step (w := w) blw hb); have hz2 := hb.size; obtain ⟨hcl2, hfr2, hlt2, _⟩ := bcell hb; (try simp only [sA, sC, sD] at hz2); (try simp only [sA, sC, sD] at hcl2 hfr2 hlt2); have HB2 := hR w2; clear hb)
      have hx2' := cell_keep HB.out hx
      go_wp2_with fail
      refine (hop _).mono ?_
      rintro _ w3 ⟨rfl, hb⟩
      (have HB := Aside0.mk (below_step (w := w) blw hb); have hz3 := hb.size; obtain ⟨hcl3, hfr3, hlt3, _⟩ := bcell hb; (try simp only [sA, sC, sD] at hz3); (try simp only [sA, sC, sD] at hcl3 hfr3 hlt3); have HB3 := hR w3; clear hb)
      have hx3' := cell_keep HB.out hx
      have hy3 := cell_keep HB.out hy
      go_wp2_with fail
      refine (hx1 _).mono ?_
      rintro _ w4 ⟨rfl, hb⟩
      (have HB := Aside0.mk (below_step (w := w) blw hb); have hz4 := hb.size; obtain ⟨hcl4, hfr4, hlt4, _⟩ := bcell hb; (try simp only [sA, sC, sD] at hz4); (try simp only [sA, sC, sD] at hcl4 hfr4 hlt4); have HB4 := hR w4; clear hb)
      have hx4' := cell_keep HB.out hx
      go_wp2_with fail
      refine (hmd _).mono ?_
      rintro _ w5 ⟨rfl, hb⟩
      (have HB := Aside0.mk (below_step (w := w) blw hb); have hz5 := hb.size; obtain ⟨hcl5, hfr5, hlt5, _⟩ := bcell hb; (try simp only [sA, sC, sD] at hz5); (try simp only [sA, sC, sD] at hcl5 hfr5 hlt5); have HB5 := hR w5; clear hb)
      go_wp2_with fail
      go_ret
      exact ⟨ret_of (congrArg Value.string (by apply ByteArray.ext; simp [opT])), blw⟩
  · obtain ⟨ad, rfl, hx, hy, hz⟩ := h.at2 (by rcases hm with rfl | rfl | rfl | rfl <;> simp [sizeM] at hl <;> omega)
    rcases hm with rfl | rfl | rfl | rfl
    · rw [show sizeM 6 = 3 from rfl] at hl
      rw [if_neg (by decide)]
      have HB := hR w; go_enter Tryd.func23, Tryd.ntmps23
      go_wp2_with fail
      refine (hs _).mono ?_
      rintro _ w1 ⟨rfl, hb⟩
      (have HB := Aside0.mk (below_step (w := w) blw hb); have hz1 := hb.size; obtain ⟨hcl1, hfr1, hlt1, _⟩ := bcell hb; (try simp only [sA, sC, sD] at hz1); (try simp only [sA, sC, sD] at hcl1 hfr1 hlt1); have HB1 := hR w1; clear hb)
      have hx1' := cell_keep HB.out hx
      go_wp2_with fail
      refine (hs _).mono ?_
      rintro _ w2 ⟨rfl, hb⟩
      (have HB := Aside0.mk (below_step (w := w) blw hb); have hz2 := hb.size; obtain ⟨hcl2, hfr2, hlt2, _⟩ := bcell hb; (try simp only [sA, sC, sD] at hz2); (try simp only [sA, sC, sD] at hcl2 hfr2 hlt2); have HB2 := hR w2; clear hb)
      have hx2' := cell_keep HB.out hx
      go_wp2_with fail
      refine (hop _).mono ?_
      rintro _ w3 ⟨rfl, hb⟩
      (have HB := Aside0.mk (below_step (w := w) blw hb); have hz3 := hb.size; obtain ⟨hcl3, hfr3, hlt3, _⟩ := bcell hb; (try simp only [sA, sC, sD] at hz3); (try simp only [sA, sC, sD] at hcl3 hfr3 hlt3); have HB3 := hR w3; clear hb)
      have hx3' := cell_keep HB.out hx
      have hy3 := cell_keep HB.out hy
      go_wp2_with fail
      refine (hx1 _).mono ?_
      rintro _ w4 ⟨rfl, hb⟩
      (have HB := Aside0.mk (below_step (w := w) blw hb); have hz4 := hb.size; obtain ⟨hcl4, hfr4, hlt4, _⟩ := bcell hb; (try simp only [sA, sC, sD] at hz4); (try simp only [sA, sC, sD] at hcl4 hfr4 hlt4); have HB4 := hR w4; clear hb)
      have hx4' := cell_keep HB.out hx
      have hy4 := cell_keep HB.out hy
      have hz4 := cell_keep HB.out hz
      go_wp2_with fail
      go_region_held3 (fun w' => w'.cell? ⟨ad.block, ad.off + 1, none⟩ = some (.int .u8 (rd l 1)) ∧ w'.cell? ⟨ad.block, ad.off + 2, none⟩ = some (.int .u8 (rd l 2))) (first | (go_keep; done) | (go_split_ands; (repeat' apply And.intro) <;> (first | (with_reducible assumption) | (go_simp; done) | (exact cell_keep blw (by assumption)) | exact blw))) (first | (go_at_call 53; ((with_reducible refine (hwd _).mono ?_); rintro _ _ ⟨rfl, rfl⟩)) | (go_at_call 52; ((with_reducible refine (hx3 _).mono ?_); rintro _ w5 ⟨rfl, hb⟩; have HB := Aside0.mk (below_step (w := w) blw hb); have hz5 := hb.size; obtain ⟨hcl5, hfr5, hlt5, _⟩ := bcell hb; (try simp only [sA, sC, sD] at hz5); (try simp only [sA, sC, sD] at hcl5 hfr5 hlt5); have HB5 := hR w5; clear hb; have ey := cell_keep HB.out hy; have ez := cell_keep HB.out hz)))
      have hx5' := cell_keep HB.out hx
      go_wp2_with fail
      refine (hmd _).mono ?_
      rintro _ w6 ⟨rfl, hb⟩
      (have HB := Aside0.mk (below_step (w := w) blw hb); have hz6 := hb.size; obtain ⟨hcl6, hfr6, hlt6, _⟩ := bcell hb; (try simp only [sA, sC, sD] at hz6); (try simp only [sA, sC, sD] at hcl6 hfr6 hlt6); have HB6 := hR w6; clear hb)
      go_wp2_with fail
      go_ret
      exact ⟨ret_of (congrArg Value.string (by apply ByteArray.ext; simp [opT])), blw⟩
    · rw [show sizeM 7 = 3 from rfl] at hl
      rw [if_neg (by decide)]
      have HB := hR w; go_enter Tryd.func23, Tryd.ntmps23
      go_wp2_with fail
      refine (hs _).mono ?_
      rintro _ w1 ⟨rfl, hb⟩
      (have HB := Aside0.mk (below_step (w := w) blw hb); have hz1 := hb.size; obtain ⟨hcl1, hfr1, hlt1, _⟩ := bcell hb; (try simp only [sA, sC, sD] at hz1); (try simp only [sA, sC, sD] at hcl1 hfr1 hlt1); have HB1 := hR w1; clear hb)
      have hx1' := cell_keep HB.out hx
      go_wp2_with fail
      refine (hs _).mono ?_
      rintro _ w2 ⟨rfl, hb⟩
      (have HB := Aside0.mk (below_step (w := w) blw hb); have hz2 := hb.size; obtain ⟨hcl2, hfr2, hlt2, _⟩ := bcell hb; (try simp only [sA, sC, sD] at hz2); (try simp only [sA, sC, sD] at hcl2 hfr2 hlt2); have HB2 := hR w2; clear hb)
      have hx2' := cell_keep HB.out hx
      go_wp2_with fail
      refine (hop _).mono ?_
      rintro _ w3 ⟨rfl, hb⟩
      (have HB := Aside0.mk (below_step (w := w) blw hb); have hz3 := hb.size; obtain ⟨hcl3, hfr3, hlt3, _⟩ := bcell hb; (try simp only [sA, sC, sD] at hz3); (try simp only [sA, sC, sD] at hcl3 hfr3 hlt3); have HB3 := hR w3; clear hb)
      have hx3' := cell_keep HB.out hx
      have hy3 := cell_keep HB.out hy
      go_wp2_with fail
      refine (hx1 _).mono ?_
      rintro _ w4 ⟨rfl, hb⟩
      (have HB := Aside0.mk (below_step (w := w) blw hb); have hz4 := hb.size; obtain ⟨hcl4, hfr4, hlt4, _⟩ := bcell hb; (try simp only [sA, sC, sD] at hz4); (try simp only [sA, sC, sD] at hcl4 hfr4 hlt4); have HB4 := hR w4; clear hb)
      have hx4' := cell_keep HB.out hx
      have hy4 := cell_keep HB.out hy
      have hz4 := cell_keep HB.out hz
      go_wp2_with fail
      go_region_held3 (fun w' => w'.cell? ⟨ad.block, ad.off + 1, none⟩ = some (.int .u8 (rd l 1)) ∧ w'.cell? ⟨ad.block, ad.off + 2, none⟩ = some (.int .u8 (rd l 2))) (first | (go_keep; done) | (go_split_ands; (repeat' apply And.intro) <;> (first | (with_reducible assumption) | (go_simp; done) | (exact cell_keep blw (by assumption)) | exact blw))) (first | (go_at_call 53; ((with_reducible refine (hwd _).mono ?_); rintro _ _ ⟨rfl, rfl⟩)) | (go_at_call 52; ((with_reducible refine (hx3 _).mono ?_); rintro _ w5 ⟨rfl, hb⟩; have HB := Aside0.mk (below_step (w := w) blw hb); have hz5 := hb.size; obtain ⟨hcl5, hfr5, hlt5, _⟩ := bcell hb; (try simp only [sA, sC, sD] at hz5); (try simp only [sA, sC, sD] at hcl5 hfr5 hlt5); have HB5 := hR w5; clear hb; have ey := cell_keep HB.out hy; have ez := cell_keep HB.out hz)))
      have hx5' := cell_keep HB.out hx
      go_wp2_with fail
      refine (hmd _).mono ?_
      rintro _ w6 ⟨rfl, hb⟩
      (have HB := Aside0.mk (below_step (w := w) blw hb); have hz6 := hb.size; obtain ⟨hcl6, hfr6, hlt6, _⟩ := bcell hb; (try simp only [sA, sC, sD] at hz6); (try simp only [sA, sC, sD] at hcl6 hfr6 hlt6); have HB6 := hR w6; clear hb)
      go_wp2_with fail
      go_ret
      exact ⟨ret_of (congrArg Value.string (by apply ByteArray.ext; simp [opT])), blw⟩
    · rw [show sizeM 8 = 3 from rfl] at hl
      rw [if_neg (by decide)]
      have HB := hR w; go_enter Tryd.func23, Tryd.ntmps23
      go_wp2_with fail
      refine (hs _).mono ?_
      rintro _ w1 ⟨rfl, hb⟩
      (have HB := Aside0.mk (below_step (w := w) blw hb); have hz1 := hb.size; obtain ⟨hcl1, hfr1, hlt1, _⟩ := bcell hb; (try simp only [sA, sC, sD] at hz1); (try simp only [sA, sC, sD] at hcl1 hfr1 hlt1); have HB1 := hR w1; clear hb)
      have hx1' := cell_keep HB.out hx
      go_wp2_with fail
      refine (hs _).mono ?_
      rintro _ w2 ⟨rfl, hb⟩
      (have HB := Aside0.mk (below_step (w := w) blw hb); have hz2 := hb.size; obtain ⟨hcl2, hfr2, hlt2, _⟩ := bcell hb; (try simp only [sA, sC, sD] at hz2); (try simp only [sA, sC, sD] at hcl2 hfr2 hlt2); have HB2 := hR w2; clear hb)
      have hx2' := cell_keep HB.out hx
      go_wp2_with fail
      refine (hop _).mono ?_
      rintro _ w3 ⟨rfl, hb⟩
      (have HB := Aside0.mk (below_step (w := w) blw hb); have hz3 := hb.size; obtain ⟨hcl3, hfr3, hlt3, _⟩ := bcell hb; (try simp only [sA, sC, sD] at hz3); (try simp only [sA, sC, sD] at hcl3 hfr3 hlt3); have HB3 := hR w3; clear hb)
      have hx3' := cell_keep HB.out hx
      have hy3 := cell_keep HB.out hy
      go_wp2_with fail
      refine (hx1 _).mono ?_
      rintro _ w4 ⟨rfl, hb⟩
      (have HB := Aside0.mk (below_step (w := w) blw hb); have hz4 := hb.size; obtain ⟨hcl4, hfr4, hlt4, _⟩ := bcell hb; (try simp only [sA, sC, sD] at hz4); (try simp only [sA, sC, sD] at hcl4 hfr4 hlt4); have HB4 := hR w4; clear hb)
      have hx4' := cell_keep HB.out hx
      have hy4 := cell_keep HB.out hy
      have hz4 := cell_keep HB.out hz
      go_wp2_with fail
      go_region_held3 (fun w' => w'.cell? ⟨ad.block, ad.off + 1, none⟩ = some (.int .u8 (rd l 1)) ∧ w'.cell? ⟨ad.block, ad.off + 2, none⟩ = some (.int .u8 (rd l 2))) (first | (go_keep; done) | (go_split_ands; (repeat' apply And.intro) <;> (first | (with_reducible assumption) | (go_simp; done) | (exact cell_keep blw (by assumption)) | exact blw))) (first | (go_at_call 53; ((with_reducible refine (hwd _).mono ?_); rintro _ _ ⟨rfl, rfl⟩)) | (go_at_call 52; ((with_reducible refine (hx3 _).mono ?_); rintro _ w5 ⟨rfl, hb⟩; have HB := Aside0.mk (below_step (w := w) blw hb); have hz5 := hb.size; obtain ⟨hcl5, hfr5, hlt5, _⟩ := bcell hb; (try simp only [sA, sC, sD] at hz5); (try simp only [sA, sC, sD] at hcl5 hfr5 hlt5); have HB5 := hR w5; clear hb; have ey := cell_keep HB.out hy; have ez := cell_keep HB.out hz)))
      have hx5' := cell_keep HB.out hx
      go_wp2_with fail
      refine (hmd _).mono ?_
      rintro _ w6 ⟨rfl, hb⟩
      (have HB := Aside0.mk (below_step (w := w) blw hb); have hz6 := hb.size; obtain ⟨hcl6, hfr6, hlt6, _⟩ := bcell hb; (try simp only [sA, sC, sD] at hz6); (try simp only [sA, sC, sD] at hcl6 hfr6 hlt6); have HB6 := hR w6; clear hb)
      go_wp2_with fail
      go_ret
      exact ⟨ret_of (congrArg Value.string (by apply ByteArray.ext; simp [opT])), blw⟩
    · rw [show sizeM 9 = 3 from rfl] at hl
      rw [if_neg (by decide)]
      have HB := hR w; go_enter Tryd.func23, Tryd.ntmps23
      go_wp2_with fail
      refine (hs _).mono ?_
      rintro _ w1 ⟨rfl, hb⟩
      (have HB := Aside0.mk (below_step (w := w) blw hb); have hz1 := hb.size; obtain ⟨hcl1, hfr1, hlt1, _⟩ := bcell hb; (try simp only [sA, sC, sD] at hz1); (try simp only [sA, sC, sD] at hcl1 hfr1 hlt1); have HB1 := hR w1; clear hb)
      have hx1' := cell_keep HB.out hx
      go_wp2_with fail
      refine (hs _).mono ?_
      rintro _ w2 ⟨rfl, hb⟩
      (have HB := Aside0.mk (below_step (w := w) blw hb); have hz2 := hb.size; obtain ⟨hcl2, hfr2, hlt2, _⟩ := bcell hb; (try simp only [sA, sC, sD] at hz2); (try simp only [sA, sC, sD] at hcl2 hfr2 hlt2); have HB2 := hR w2; clear hb)
      have hx2' := cell_keep HB.out hx
      go_wp2_with fail
      refine (hop _).mono ?_
      rintro _ w3 ⟨rfl, hb⟩
      (have HB := Aside0.mk (below_step (w := w) blw hb); have hz3 := hb.size; obtain ⟨hcl3, hfr3, hlt3, _⟩ := bcell hb; (try simp only [sA, sC, sD] at hz3); (try simp only [sA, sC, sD] at hcl3 hfr3 hlt3); have HB3 := hR w3; clear hb)
      have hx3' := cell_keep HB.out hx
      have hy3 := cell_keep HB.out hy
      go_wp2_with fail
      refine (hx1 _).mono ?_
      rintro _ w4 ⟨rfl, hb⟩
      (have HB := Aside0.mk (below_step (w := w) blw hb); have hz4 := hb.size; obtain ⟨hcl4, hfr4, hlt4, _⟩ := bcell hb; (try simp only [sA, sC, sD] at hz4); (try simp only [sA, sC, sD] at hcl4 hfr4 hlt4); have HB4 := hR w4; clear hb)
      have hx4' := cell_keep HB.out hx
      have hy4 := cell_keep HB.out hy
      have hz4 := cell_keep HB.out hz
      go_wp2_with fail
      go_region_held3 (fun w' => w'.cell? ⟨ad.block, ad.off + 1, none⟩ = some (.int .u8 (rd l 1)) ∧ w'.cell? ⟨ad.block, ad.off + 2, none⟩ = some (.int .u8 (rd l 2))) (first | (go_keep; done) | (go_split_ands; (repeat' apply And.intro) <;> (first | (with_reducible assumption) | (go_simp; done) | (exact cell_keep blw (by assumption)) | exact blw))) (first | (go_at_call 53; ((with_reducible refine (hwd _).mono ?_); rintro _ _ ⟨rfl, rfl⟩)) | (go_at_call 52; ((with_reducible refine (hx3 _).mono ?_); rintro _ w5 ⟨rfl, hb⟩; have HB := Aside0.mk (below_step (w := w) blw hb); have hz5 := hb.size; obtain ⟨hcl5, hfr5, hlt5, _⟩ := bcell hb; (try simp only [sA, sC, sD] at hz5); (try simp only [sA, sC, sD] at hcl5 hfr5 hlt5); have HB5 := hR w5; clear hb; have ey := cell_keep HB.out hy; have ez := cell_keep HB.out hz)))
      have hx5' := cell_keep HB.out hx
      go_wp2_with fail
      refine (hmd _).mono ?_
      rintro _ w6 ⟨rfl, hb⟩
      (have HB := Aside0.mk (below_step (w := w) blw hb); have hz6 := hb.size; obtain ⟨hcl6, hfr6, hlt6, _⟩ := bcell hb; (try simp only [sA, sC, sD] at hz6); (try simp only [sA, sC, sD] at hcl6 hfr6 hlt6); have HB6 := hR w6; clear hb)
      go_wp2_with fail
      go_ret
      exact ⟨ret_of (congrArg Value.string (by apply ByteArray.ext; simp [opT])), blw⟩
  · obtain ⟨ad, rfl, hx, hy⟩ := h.at1 (by simp [sizeM] at hl; omega)
    rw [show sizeM 12 = 2 from rfl] at hl
    rw [if_neg (by decide)]
    have ho : ∃ o, (if 128 ≤ rd l 1 then rd l 1 - 256 else rd l 1) = o ∧ -128 ≤ o ∧ o < 128 := ⟨_, rfl, by split <;> omega, by split <;> omega⟩
    obtain ⟨o, ho, o0, o1⟩ := ho
    rw [ho] at hof
    rw [show opT 12 (rd l 1) (rd l 2) pc = 36 :: hexL (tgt pc (rd l 1)) 4 from rfl]
    have et : tgt pc (rd l 1) = (pc + 2 + o) % 65536 := by unfold tgt; rw [ho]
    rw [et] at hx4 q4 ⊢
    clear ho et
    have HB := hR w; go_enter Tryd.func23, Tryd.ntmps23
    go_wp2_with fail
    refine (hs _).mono ?_
    rintro _ w1 ⟨rfl, hb⟩
    (have HB := Aside0.mk (below_step (w := w) blw hb); have hz1 := hb.size; obtain ⟨hcl1, hfr1, hlt1, _⟩ := bcell hb; (try simp only [sA, sC, sD] at hz1); (try simp only [sA, sC, sD] at hcl1 hfr1 hlt1); have HB1 := hR w1; clear hb)
    have hx1' := cell_keep HB.out hx
    go_wp2_with fail
    refine (hs _).mono ?_
    rintro _ w2 ⟨rfl, hb⟩
    (have HB := Aside0.mk (below_step (w := w) blw hb); have hz2 := hb.size; obtain ⟨hcl2, hfr2, hlt2, _⟩ := bcell hb; (try simp only [sA, sC, sD] at hz2); (try simp only [sA, sC, sD] at hcl2 hfr2 hlt2); have HB2 := hR w2; clear hb)
    have hx2' := cell_keep HB.out hx
    go_wp2_with fail
    refine (hop _).mono ?_
    rintro _ w3 ⟨rfl, hb⟩
    (have HB := Aside0.mk (below_step (w := w) blw hb); have hz3 := hb.size; obtain ⟨hcl3, hfr3, hlt3, _⟩ := bcell hb; (try simp only [sA, sC, sD] at hz3); (try simp only [sA, sC, sD] at hcl3 hfr3 hlt3); have HB3 := hR w3; clear hb)
    have hx3' := cell_keep HB.out hx
    have hy3 := cell_keep HB.out hy
    go_wp2_with fail
    refine (hx1 _).mono ?_
    rintro _ w4 ⟨rfl, hb⟩
    (have HB := Aside0.mk (below_step (w := w) blw hb); have hz4 := hb.size; obtain ⟨hcl4, hfr4, hlt4, _⟩ := bcell hb; (try simp only [sA, sC, sD] at hz4); (try simp only [sA, sC, sD] at hcl4 hfr4 hlt4); have HB4 := hR w4; clear hb)
    have hx4' := cell_keep HB.out hx
    have hy4 := cell_keep HB.out hy
    go_wp2_with fail
    refine (hmd _).mono ?_
    rintro _ w5 ⟨rfl, hb⟩
    (have HB := Aside0.mk (below_step (w := w) blw hb); have hz5 := hb.size; obtain ⟨hcl5, hfr5, hlt5, _⟩ := bcell hb; (try simp only [sA, sC, sD] at hz5); (try simp only [sA, sC, sD] at hcl5 hfr5 hlt5); have HB5 := hR w5; clear hb)
    have hy5 := cell_keep HB.out hy
    go_wp2_with fail
    refine (hof _).mono ?_
    rintro _ _ ⟨rfl, rfl⟩
    go_wp2_with fail
    refine (hx4 _).mono ?_
    rintro _ w6 ⟨rfl, hb⟩
    (have HB := Aside0.mk (below_step (w := w) blw hb); have hz6 := hb.size; obtain ⟨hcl6, hfr6, hlt6, _⟩ := bcell hb; (try simp only [sA, sC, sD] at hz6); (try simp only [sA, sC, sD] at hcl6 hfr6 hlt6); have HB6 := hR w6; clear hb)
    go_wp2_with fail
    go_ret
    exact ⟨ret_of (congrArg Value.string (by apply ByteArray.ext; simp [opT])), blw⟩
end Go.Proofs.YthlmddcjbhacmaaDoor
