/- More drawing of a law's inputs: bytes, operations, counters of the program, memories. -/
import Derived.Test.YthlmddcjbhacmaaDoorDraw
import Derived.Test.YthlmddcjbhacmaaDoorFill
import Derived.Test.YthlmddcjbhacmaaDoorOpS
import Derived.Test.YthlmddcjbhacmaaDoorLt
set_option linter.unusedVariables false
set_option linter.unusedSimpArgs false
namespace Go.Proofs.YthlmddcjbhacmaaDoor
open Go.RowKit Go.Proofs.YthlmddcjbhacmaaDoorW.PrintWords
theorem w8d (x : Int) : 0 ≤ IntKind.u8.wrap x ∧ IntKind.u8.wrap x < 256 := by rw [IntKind.wrap_u8]; omega
theorem grown_al {a b : World} {row : Option Nat} (o : Obj) (h : (a.alloc o).grownBy b row) : a.grownBy b row := (World.grownBy_alloc a o row).trans h
theorem spec_l01Once (g : Nat) (A : Option Addr) (c : Nat) (l : List Int) (n : Int) (w : World) (h : Cur w g A c l) (hl : l.length ≤ 1048576) (h0 : 0 ≤ n) (h1 : n ≤ 2147483648) :
    Calls Tryd.prog 65 #[.pointer (some ⟨g, 0, none⟩), .int .i64 n] w fun e w' => ∃ b, e = .returned (.bool b) ∧ Cur w' g A c l ∧ w.grownBy w' (some g) := by
  have HB := hR w; go_enter Tryd.func65, Tryd.ntmps65
  go_wp2_with fail
  refine (spec_l01Below _ _ _ _ _ _ h hl h0 h1).mono ?_
  rintro _ w1 ⟨x, rfl, x0, x1, hc, hb⟩
  go_wp2_with fail
  go_ret
  exact ⟨_, rfl, hc, hb⟩
set_option maxHeartbeats 400000 in
theorem spec_l02Byte (g : Nat) (A : Option Addr) (c : Nat) (l : List Int) (w : World) (h : Cur w g A c l) (hl : l.length ≤ 1048576) :
    Calls Tryd.prog 60 #[.pointer (some ⟨g, 0, none⟩)] w fun e w' => ∃ x, e = .returned (.int .u8 x) ∧ 0 ≤ x ∧ x < 256 ∧ Cur w' g A c l ∧ w.grownBy w' (some g) := by
  have HB := hR w; go_enter Tryd.func60, Tryd.ntmps60
  go_wp2_with fail
  refine (spec_l01Once _ _ _ _ _ _ h hl (by omega) (by omega)).mono ?_
  rintro _ w1 ⟨b, rfl, hc, hb⟩
  have hg : g < w1.heap.size := World.block_lt_of_cell? w1 _ hc.b
  cases b
  · go_wp2_with fail
    refine (spec_l01Byte _ _ _ _ _ hc hl).mono ?_
    rintro _ w2 ⟨x, rfl, x0, x1, hc2, hb2⟩
    go_wp2_with fail
    go_ret
    exact ⟨_, rfl, x0, x1, hc2, hb.trans hb2⟩
  · go_wp2_with fail
    refine (spec_l01PickInt g A c l (some ⟨w1.heap.size, 0, none⟩) 10 [0, 1, 9, 16, 127, 128, 153, 255, 154, 80] _ (hc.below (blw)) hl (C_alloc _ _ _ (by decide)) (by decide) (by decide) (fun ad e => by injection e with e; subst e; simp; omega)).mono ?_
    rintro _ w2 ⟨k, hk, rfl, hc2, hb2⟩
    go_wp2_with fail
    go_ret
    exact ⟨_, rfl, (w8d _).1, (w8d _).2, hc2, hb.trans (grown_al _ hb2)⟩
end Go.Proofs.YthlmddcjbhacmaaDoor
