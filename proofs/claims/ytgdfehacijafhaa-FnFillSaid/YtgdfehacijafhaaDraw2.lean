/- More drawing of a law's inputs: bytes, operations, counters of the program, memories. -/
import Derived.Test.YtgdfehacijafhaaDraw
import Derived.Test.YtgdfehacijafhaaNewRam
import Derived.Test.YtgdfehacijafhaaFill
import Derived.Test.YtgdfehacijafhaaOpS
import Derived.Test.YtgdfehacijafhaaLt
set_option linter.unusedVariables false
set_option linter.unusedSimpArgs false
namespace Go.Proofs.Ytgdfehacijafhaa
open Go.RowKit Go.Proofs.YtgdfehacijafhaaW.PrintWords
theorem w8 (x : Int) : 0 ≤ IntKind.u8.wrap x ∧ IntKind.u8.wrap x < 256 := by rw [IntKind.wrap_u8]; omega
theorem grown_al {a b : World} {row : Option Nat} (o : Obj) (h : (a.alloc o).grownBy b row) : a.grownBy b row := (World.grownBy_alloc a o row).trans h
theorem spec_l01Once (g : Nat) (A : Option Addr) (c : Nat) (l : List Int) (n : Int) (w : World) (h : Cur w g A c l) (hl : l.length ≤ 1048576) (h0 : 0 ≤ n) (h1 : n ≤ 2147483648) :
    Calls Try.prog 46 #[.pointer (some ⟨g, 0, none⟩), .int .i64 n] w fun e w' => ∃ b, e = .returned (.bool b) ∧ Cur w' g A c l ∧ w.grownBy w' (some g) := by
  have HB := Aside0.mk (Below.refl w.heap.size w); go_enter Try.func46, Try.ntmps46
  go_wp2_with fail
  refine (spec_l01Below _ _ _ _ _ _ h hl h0 h1).mono ?_
  rintro _ w1 ⟨x, rfl, x0, x1, hc, hb⟩
  go_wp2_with fail
  go_ret
  exact ⟨_, rfl, hc, hb⟩
set_option maxHeartbeats 400000 in
theorem spec_l02Byte (g : Nat) (A : Option Addr) (c : Nat) (l : List Int) (w : World) (h : Cur w g A c l) (hl : l.length ≤ 1048576) :
    Calls Try.prog 41 #[.pointer (some ⟨g, 0, none⟩)] w fun e w' => ∃ x, e = .returned (.int .u8 x) ∧ 0 ≤ x ∧ x < 256 ∧ Cur w' g A c l ∧ w.grownBy w' (some g) := by
  have HB := Aside0.mk (Below.refl w.heap.size w); go_enter Try.func41, Try.ntmps41
  go_wp2_with fail
  refine (spec_l01Once _ _ _ _ _ _ h hl (by omega) (by omega)).mono ?_
  rintro _ w1 ⟨b, rfl, hc, hb⟩
  have hg : g < w1.heap.size := World.block_lt_of_cell? w1 _ hc.b
  cases b
  · go_wp2_with fail
    refine (spec_l01Byte _ _ _ _ _ hc hl).mono ?_
    rintro _ w2 ⟨x, rfl, x0, x1, hc2, hb2⟩
    go_wp2_with fail
    go_ret
    exact ⟨_, rfl, x0, x1, hc2, hb.trans hb2⟩
  · go_wp2_with fail
    refine (spec_l01PickInt g A c l (some ⟨w1.heap.size, 0, none⟩) 10 [0, 1, 9, 16, 127, 128, 153, 255, 154, 80] _ (hc.below (by (repeat (first | (with_reducible exact Below.refl _ _) | (with_reducible assumption) | ((with_reducible apply Aside0.out); with_reducible assumption) | (with_reducible apply below_alloc) | (with_reducible apply below_drew1) | (with_reducible apply pw_below_drewN) | ((with_reducible refine below_set ?_ ?_); rotate_left; (first | omega | (simp; done) | (simp; omega))))))) hl (C_alloc _ _ _ (by decide)) (by decide) (by decide) (fun ad e => by injection e with e; subst e; simp; omega)).mono ?_
    rintro _ w2 ⟨k, hk, rfl, hc2, hb2⟩
    go_wp2_with fail
    go_ret
    exact ⟨_, rfl, (w8 _).1, (w8 _).2, hc2, hb.trans (grown_al _ hb2)⟩
set_option maxHeartbeats 1000000 in
theorem spec_l03Code (g : Nat) (A : Option Addr) (c : Nat) (l : List Int) (w : World) (h : Cur w g A c l) (hl : l.length ≤ 1048576) :
    Calls Try.prog 79 #[.pointer (some ⟨g, 0, none⟩)] w fun e w' => ∃ x, e = .returned (.int .u8 x) ∧ 0 ≤ x ∧ x < 256 ∧ Cur w' g A c l ∧ w.grownBy w' (some g) := by
  have HB := Aside0.mk (Below.refl w.heap.size w); go_enter Try.func79, Try.ntmps79
  go_wp2_with fail
  refine (spec_l01Byte _ _ _ _ _ h hl).mono ?_
  rintro _ w1 ⟨x, rfl, x0, x1, hc, hb⟩
  have HC := Aside0.mk hc
  have HG := Aside0.mk hb
  clear hc hb
  go_wp2_with fail
  go_loopw [3, 4] (fun v3 v4 wr => ∃ k : Nat, ∃ x : Int, k ≤ 3 ∧ 0 ≤ x ∧ x < 256 ∧ v3 = .int .u8 x ∧ v4 = .int .i64 k ∧ Aside0 (Cur wr g A c l) ∧ Aside0 (w.grownBy wr (some g))) (fun _ v4 _ => 3 - (intOf v4).toNat)
  case atStart => first | exact ⟨0, _, by omega, x0, x1, rfl, rfl, HC, HG⟩ | exact ⟨0, _, by omega, (w8 _).1, (w8 _).2, rfl, rfl, HC, HG⟩
  case round =>
    obtain ⟨k, y, hk, y0, y1, rfl, rfl, HC, HG⟩ := hrel
    by_cases hlt : k < 3
    · have hn := fun W => spec_NameOf y W y0 y1
      generalize nmS y = nm at hn
      by_cases hx : nm = []
      · subst hx
        go_wp2_with fail
        refine (hn _).mono ?_
        rintro _ w2 ⟨rfl, hb⟩
        have HC2 := Aside0.mk (HC.out.below hb)
        have HG2 := Aside0.mk (grown_below HG.out hb)
        go_wp2_with fail
        refine (spec_l01Byte _ _ _ _ _ HC2.out hl).mono ?_
        rintro _ w3 ⟨z, rfl, z0, z1, hc3, hb3⟩
        have HC3 := Aside0.mk hc3
        have HG3 := Aside0.mk (HG2.out.trans hb3)
        clear hc3 hb3
        go_wp2_with fail
        exact ⟨(by first | exact ⟨k + 1, _, by omega, z0, z1, rfl, by go_num, HC3, HG3⟩ | exact ⟨k + 1, _, by omega, (w8 _).1, (w8 _).2, rfl, by go_num, HC3, HG3⟩), by simp [intOf]; omega⟩
      · have hx1 : (nm == []) = false := beq_eq_false_iff_ne.2 hx
        have hx2 : nm.isEmpty = false := by cases nm with | nil => exact absurd rfl hx | cons a t => rfl
        go_wp2_with fail
        refine (hn _).mono ?_
        rintro _ w2 ⟨rfl, hb⟩
        have HC2 := Aside0.mk (HC.out.below hb)
        have HG2 := Aside0.mk (grown_below HG.out hb)
        go_wp2_with fail
        go_ret
        exact ⟨_, rfl, y0, y1, HC2.out, HG2.out⟩
    · go_wp2_with fail
      go_ret
      exact ⟨_, rfl, y0, y1, HC.out, HG.out⟩
end Go.Proofs.Ytgdfehacijafhaa
