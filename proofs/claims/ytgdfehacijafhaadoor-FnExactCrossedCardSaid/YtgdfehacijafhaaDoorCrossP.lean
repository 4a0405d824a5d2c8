/- Small functions of FnExactCrossed: branches, offsets, indexes. -/
import Derived.Test.YtgdfehacijafhaaDoorCpuX
import Derived.Test.YtgdfehacijafhaaDoorTimes
import Derived.Test.YtgdfehacijafhaaDoorRam
import Derived.Test.YtgdfehacijafhaaDoorCold
set_option linter.unusedVariables false
set_option linter.unusedSimpArgs false
namespace Go.Proofs.YtgdfehacijafhaaDoor
open Go.RowKit Go.Proofs.YtgdfehacijafhaaDoorW.PrintWords
def holds (f : F6) (x : List UInt8) : Bool := if x == [66, 80, 76] then !f.N else if x == [66, 77, 73] then f.N else if x == [66, 86, 67] then !f.V else if x == [66, 86, 83] then f.V else if x == [66, 67, 67] then !f.C else if x == [66, 67, 83] then f.C else if x == [66, 78, 69] then !f.Z else f.Z
theorem holds_cases (f : F6) (x : List UInt8) (P : List UInt8 → Bool → Prop) (h0 : P [66, 80, 76] (!f.N)) (h1 : P [66, 77, 73] f.N) (h2 : P [66, 86, 67] (!f.V)) (h3 : P [66, 86, 83] f.V) (h4 : P [66, 67, 67] (!f.C)) (h5 : P [66, 67, 83] f.C) (h6 : P [66, 78, 69] (!f.Z))
    (h7 : (x == [66, 80, 76]) = false → (x == [66, 77, 73]) = false → (x == [66, 86, 67]) = false → (x == [66, 86, 83]) = false → (x == [66, 67, 67]) = false → (x == [66, 67, 83]) = false → (x == [66, 78, 69]) = false → P x f.Z) : P x (holds f x) := by
  by_cases q0 : x = [66, 80, 76]
  · subst q0; exact h0
  by_cases q1 : x = [66, 77, 73]
  · subst q1; exact h1
  by_cases q2 : x = [66, 86, 67]
  · subst q2; exact h2
  by_cases q3 : x = [66, 86, 83]
  · subst q3; exact h3
  by_cases q4 : x = [66, 67, 67]
  · subst q4; exact h4
  by_cases q5 : x = [66, 67, 83]
  · subst q5; exact h5
  by_cases q6 : x = [66, 78, 69]
  · subst q6; exact h6
  have e : holds f x = f.Z := by simp [holds, q0, q1, q2, q3, q4, q5, q6]
  rw [e]
  exact h7 (beq_eq_false_iff_ne.2 q0) (beq_eq_false_iff_ne.2 q1) (beq_eq_false_iff_ne.2 q2) (beq_eq_false_iff_ne.2 q3) (beq_eq_false_iff_ne.2 q4) (beq_eq_false_iff_ne.2 q5) (beq_eq_false_iff_ne.2 q6)
set_option maxHeartbeats 1000000 in
theorem spec_l06Holds (f : F6) (x : List UInt8) (w : World) : Calls Tryd.prog 37 #[.agg #[.bool f.N, .bool f.V, .bool f.D, .bool f.I, .bool f.Z, .bool f.C], .string ⟨x.toArray⟩] w fun e w' => e = .returned (.bool (holds f x)) ∧ Below w.heap.size w w' := by
  refine holds_cases f x (fun x b => Calls Tryd.prog 37 #[.agg #[.bool f.N, .bool f.V, .bool f.D, .bool f.I, .bool f.Z, .bool f.C], .string ⟨x.toArray⟩] w fun e w' => e = .returned (.bool b) ∧ Below w.heap.size w w') ?_ ?_ ?_ ?_ ?_ ?_ ?_ ?_
  · have HB := Aside0.mk (Below.refl w.heap.size w); go_enter Tryd.func37, Tryd.ntmps37; go_wp2; go_ret; exact ⟨rfl, by (repeat (first | (with_reducible exact Below.refl _ _) | (with_reducible assumption) | ((with_reducible apply Aside0.out); with_reducible assumption) | (with_reducible apply below_alloc) | (with_reducible apply below_drew1) | (with_reducible apply pw_below_drewN) | ((with_reducible refine below_set ?_ ?_); rotate_left; (first | omega | (simp; done) | (simp; omega)))))⟩
  · have HB := Aside0.mk (Below.refl w.heap.size w); go_enter Tryd.func37, Tryd.ntmps37; go_wp2; go_ret; exact ⟨rfl, by (repeat (first | (with_reducible exact Below.refl _ _) | (with_reducible assumption) | ((with_reducible apply Aside0.out); with_reducible assumption) | (with_reducible apply below_alloc) | (with_reducible apply below_drew1) | (with_reducible apply pw_below_drewN) | ((with_reducible refine below_set ?_ ?_); rotate_left; (first | omega | (simp; done) | (simp; omega)))))⟩
  · have HB := Aside0.mk (Below.refl w.heap.size w); go_enter Tryd.func37, Tryd.ntmps37; go_wp2; go_ret; exact ⟨rfl, by (repeat (first | (with_reducible exact Below.refl _ _) | (with_reducible assumption) | ((with_reducible apply Aside0.out); with_reducible assumption) | (with_reducible apply below_alloc) | (with_reducible apply below_drew1) | (with_reducible apply pw_below_drewN) | ((with_reducible refine below_set ?_ ?_); rotate_left; (first | omega | (simp; done) | (simp; omega)))))⟩
  · have HB := Aside0.mk (Below.refl w.heap.size w); go_enter Tryd.func37, Tryd.ntmps37; go_wp2; go_ret; exact ⟨rfl, by (repeat (first | (with_reducible exact Below.refl _ _) | (with_reducible assumption) | ((with_reducible apply Aside0.out); with_reducible assumption) | (with_reducible apply below_alloc) | (with_reducible apply below_drew1) | (with_reducible apply pw_below_drewN) | ((with_reducible refine below_set ?_ ?_); rotate_left; (first | omega | (simp; done) | (simp; omega)))))⟩
  · have HB := Aside0.mk (Below.refl w.heap.size w); go_enter Tryd.func37, Tryd.ntmps37; go_wp2; go_ret; exact ⟨rfl, by (repeat (first | (with_reducible exact Below.refl _ _) | (with_reducible assumption) | ((with_reducible apply Aside0.out); with_reducible assumption) | (with_reducible apply below_alloc) | (with_reducible apply below_drew1) | (with_reducible apply pw_below_drewN) | ((with_reducible refine below_set ?_ ?_); rotate_left; (first | omega | (simp; done) | (simp; omega)))))⟩
  · have HB := Aside0.mk (Below.refl w.heap.size w); go_enter Tryd.func37, Tryd.ntmps37; go_wp2; go_ret; exact ⟨rfl, by (repeat (first | (with_reducible exact Below.refl _ _) | (with_reducible assumption) | ((with_reducible apply Aside0.out); with_reducible assumption) | (with_reducible apply below_alloc) | (with_reducible apply below_drew1) | (with_reducible apply pw_below_drewN) | ((with_reducible refine below_set ?_ ?_); rotate_left; (first | omega | (simp; done) | (simp; omega)))))⟩
  · have HB := Aside0.mk (Below.refl w.heap.size w); go_enter Tryd.func37, Tryd.ntmps37; go_wp2; go_ret; exact ⟨rfl, by (repeat (first | (with_reducible exact Below.refl _ _) | (with_reducible assumption) | ((with_reducible apply Aside0.out); with_reducible assumption) | (with_reducible apply below_alloc) | (with_reducible apply below_drew1) | (with_reducible apply pw_below_drewN) | ((with_reducible refine below_set ?_ ?_); rotate_left; (first | omega | (simp; done) | (simp; omega)))))⟩
  · intro q0 q1 q2 q3 q4 q5 q6
    have HB := Aside0.mk (Below.refl w.heap.size w); go_enter Tryd.func37, Tryd.ntmps37; go_wp2; go_ret; exact ⟨rfl, by (repeat (first | (with_reducible exact Below.refl _ _) | (with_reducible assumption) | ((with_reducible apply Aside0.out); with_reducible assumption) | (with_reducible apply below_alloc) | (with_reducible apply below_drew1) | (with_reducible apply pw_below_drewN) | ((with_reducible refine below_set ?_ ?_); rotate_left; (first | omega | (simp; done) | (simp; omega)))))⟩
set_option maxHeartbeats 1000000 in
theorem impl_isTaken (f : F6) (x : List UInt8) (w : World) : Calls Tryd.prog 42 #[.string ⟨x.toArray⟩, .agg #[.bool f.N, .bool f.V, .bool f.D, .bool f.I, .bool f.Z, .bool f.C]] w fun e w' => e = .returned (.bool (holds f x)) ∧ Below w.heap.size w w' := by
  refine holds_cases f x (fun x b => Calls Tryd.prog 42 #[.string ⟨x.toArray⟩, .agg #[.bool f.N, .bool f.V, .bool f.D, .bool f.I, .bool f.Z, .bool f.C]] w fun e w' => e = .returned (.bool b) ∧ Below w.heap.size w w') ?_ ?_ ?_ ?_ ?_ ?_ ?_ ?_
  · have HB := Aside0.mk (Below.refl w.heap.size w); go_enter Tryd.func42, Tryd.ntmps42; go_wp2; go_ret; exact ⟨rfl, by (repeat (first | (with_reducible exact Below.refl _ _) | (with_reducible assumption) | ((with_reducible apply Aside0.out); with_reducible assumption) | (with_reducible apply below_alloc) | (with_reducible apply below_drew1) | (with_reducible apply pw_below_drewN) | ((with_reducible refine below_set ?_ ?_); rotate_left; (first | omega | (simp; done) | (simp; omega)))))⟩
  · have HB := Aside0.mk (Below.refl w.heap.size w); go_enter Tryd.func42, Tryd.ntmps42; go_wp2; go_ret; exact ⟨rfl, by (repeat (first | (with_reducible exact Below.refl _ _) | (with_reducible assumption) | ((with_reducible apply Aside0.out); with_reducible assumption) | (with_reducible apply below_alloc) | (with_reducible apply below_drew1) | (with_reducible apply pw_below_drewN) | ((with_reducible refine below_set ?_ ?_); rotate_left; (first | omega | (simp; done) | (simp; omega)))))⟩
  · have HB := Aside0.mk (Below.refl w.heap.size w); go_enter Tryd.func42, Tryd.ntmps42; go_wp2; go_ret; exact ⟨rfl, by (repeat (first | (with_reducible exact Below.refl _ _) | (with_reducible assumption) | ((with_reducible apply Aside0.out); with_reducible assumption) | (with_reducible apply below_alloc) | (with_reducible apply below_drew1) | (with_reducible apply pw_below_drewN) | ((with_reducible refine below_set ?_ ?_); rotate_left; (first | omega | (simp; done) | (simp; omega)))))⟩
  · have HB := Aside0.mk (Below.refl w.heap.size w); go_enter Tryd.func42, Tryd.ntmps42; go_wp2; go_ret; exact ⟨rfl, by (repeat (first | (with_reducible exact Below.refl _ _) | (with_reducible assumption) | ((with_reducible apply Aside0.out); with_reducible assumption) | (with_reducible apply below_alloc) | (with_reducible apply below_drew1) | (with_reducible apply pw_below_drewN) | ((with_reducible refine below_set ?_ ?_); rotate_left; (first | omega | (simp; done) | (simp; omega)))))⟩
  · have HB := Aside0.mk (Below.refl w.heap.size w); go_enter Tryd.func42, Tryd.ntmps42; go_wp2; go_ret; exact ⟨rfl, by (repeat (first | (with_reducible exact Below.refl _ _) | (with_reducible assumption) | ((with_reducible apply Aside0.out); with_reducible assumption) | (with_reducible apply below_alloc) | (with_reducible apply below_drew1) | (with_reducible apply pw_below_drewN) | ((with_reducible refine below_set ?_ ?_); rotate_left; (first | omega | (simp; done) | (simp; omega)))))⟩
  · have HB := Aside0.mk (Below.refl w.heap.size w); go_enter Tryd.func42, Tryd.ntmps42; go_wp2; go_ret; exact ⟨rfl, by (repeat (first | (with_reducible exact Below.refl _ _) | (with_reducible assumption) | ((with_reducible apply Aside0.out); with_reducible assumption) | (with_reducible apply below_alloc) | (with_reducible apply below_drew1) | (with_reducible apply pw_below_drewN) | ((with_reducible refine below_set ?_ ?_); rotate_left; (first | omega | (simp; done) | (simp; omega)))))⟩
  · have HB := Aside0.mk (Below.refl w.heap.size w); go_enter Tryd.func42, Tryd.ntmps42; go_wp2; go_ret; exact ⟨rfl, by (repeat (first | (with_reducible exact Below.refl _ _) | (with_reducible assumption) | ((with_reducible apply Aside0.out); with_reducible assumption) | (with_reducible apply below_alloc) | (with_reducible apply below_drew1) | (with_reducible apply pw_below_drewN) | ((with_reducible refine below_set ?_ ?_); rotate_left; (first | omega | (simp; done) | (simp; omega)))))⟩
  · intro q0 q1 q2 q3 q4 q5 q6
    have HB := Aside0.mk (Below.refl w.heap.size w); go_enter Tryd.func42, Tryd.ntmps42; go_wp2; go_ret; exact ⟨rfl, by (repeat (first | (with_reducible exact Below.refl _ _) | (with_reducible assumption) | ((with_reducible apply Aside0.out); with_reducible assumption) | (with_reducible apply below_alloc) | (with_reducible apply below_drew1) | (with_reducible apply pw_below_drewN) | ((with_reducible refine below_set ?_ ?_); rotate_left; (first | omega | (simp; done) | (simp; omega)))))⟩
def offs (b : Int) : Int := if 128 ≤ b then b - 256 else b
theorem spec_l04Offset (b : Int) (w : World) (h0 : 0 ≤ b) (h1 : b < 256) : Calls Tryd.prog 38 #[.int .u8 b] w fun e w' => e = .returned (.int .i64 (offs b)) ∧ w = w' := by
  have s1 : IntKind.i64.wrap (b - 256) = b - 256 := w64 (by omega)
  by_cases hb : 128 ≤ b
  · rw [show offs b = b - 256 from if_pos hb]
    have HB := Aside0.mk (Below.refl w.heap.size w); go_enter Tryd.func38, Tryd.ntmps38
    go_wp2
    go_ret
    exact ⟨rfl, rfl⟩
  · rw [show offs b = b from if_neg hb]
    have HB := Aside0.mk (Below.refl w.heap.size w); go_enter Tryd.func38, Tryd.ntmps38
    go_wp2
    go_ret
    exact ⟨rfl, rfl⟩
theorem spec_l06Index7 (c : Cpu) (w : World) (ho : c.ok) : Calls Tryd.prog 36 #[.agg #[.int .u8 c.A, .int .u8 c.X, .int .u8 c.Y, .int .u8 c.S, .int .u16 c.PC, .bool c.F.N, .bool c.F.V, .bool c.F.D, .bool c.F.I, .bool c.F.Z, .bool c.F.C], .int .i64 7] w fun e w' => e = .returned (.int .i64 c.X) ∧ Below w.heap.size w w' := by
  have e1 : IntKind.i64.wrap c.X = c.X := w64 (by unfold Cpu.ok at ho; omega)
  have HB := Aside0.mk (Below.refl w.heap.size w); go_enter Tryd.func36, Tryd.ntmps36
  go_wp2
  go_ret
  exact ⟨rfl, by (repeat (first | (with_reducible exact Below.refl _ _) | (with_reducible assumption) | ((with_reducible apply Aside0.out); with_reducible assumption) | (with_reducible apply below_alloc) | (with_reducible apply below_drew1) | (with_reducible apply pw_below_drewN) | ((with_reducible refine below_set ?_ ?_); rotate_left; (first | omega | (simp; done) | (simp; omega)))))⟩
theorem spec_l06Index8 (c : Cpu) (w : World) (ho : c.ok) : Calls Tryd.prog 36 #[.agg #[.int .u8 c.A, .int .u8 c.X, .int .u8 c.Y, .int .u8 c.S, .int .u16 c.PC, .bool c.F.N, .bool c.F.V, .bool c.F.D, .bool c.F.I, .bool c.F.Z, .bool c.F.C], .int .i64 8] w fun e w' => e = .returned (.int .i64 c.Y) ∧ Below w.heap.size w w' := by
  have e1 : IntKind.i64.wrap c.Y = c.Y := w64 (by unfold Cpu.ok at ho; omega)
  have HB := Aside0.mk (Below.refl w.heap.size w); go_enter Tryd.func36, Tryd.ntmps36
  go_wp2
  go_ret
  exact ⟨rfl, by (repeat (first | (with_reducible exact Below.refl _ _) | (with_reducible assumption) | ((with_reducible apply Aside0.out); with_reducible assumption) | (with_reducible apply below_alloc) | (with_reducible apply below_drew1) | (with_reducible apply pw_below_drewN) | ((with_reducible refine below_set ?_ ?_); rotate_left; (first | omega | (simp; done) | (simp; omega)))))⟩
theorem tgt (pc b : Int) (h0 : 0 ≤ b) (h1 : b < 256) (h2 : 0 ≤ pc) (h3 : pc < 65536) : IntKind.u16.wrap (IntKind.u16.wrap (pc + 2) + IntKind.u16.wrap (IntKind.i16.wrap (IntKind.i8.wrap b))) = (pc + 2 + offs b) % 65536 := by
  unfold offs
  simp [IntKind.wrap, IntKind.bits, IntKind.signed]
  split <;> omega
theorem impl_target (pc b : Int) (w : World) (h0 : 0 ≤ b) (h1 : b < 256) (h2 : 0 ≤ pc) (h3 : pc < 65536) : Calls Tryd.prog 43 #[.int .u16 pc, .int .u8 b] w fun e w' => e = .returned (.int .u16 ((pc + 2 + offs b) % 65536)) ∧ w = w' := by
  have HB := Aside0.mk (Below.refl w.heap.size w); go_enter Tryd.func43, Tryd.ntmps43
  go_wp2
  go_ret
  exact ⟨ret_of (congrArg (Value.int .u16) (tgt pc b h0 h1 h2 h3)), rfl⟩
end Go.Proofs.YtgdfehacijafhaaDoor
