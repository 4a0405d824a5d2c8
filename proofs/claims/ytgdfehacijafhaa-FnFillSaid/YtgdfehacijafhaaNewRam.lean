/- FnNewRam: a new memory is as long as was asked for, where that is one of the lengths, and nothing is in it. -/
import Derived.Test.YtgdfehacijafhaaDraw
import Derived.Test.YtgdfehacijafhaaRam
set_option linter.unusedVariables false
set_option linter.unusedSimpArgs false
namespace Go.Proofs.Ytgdfehacijafhaa
open Go.RowKit Go.Proofs.YtgdfehacijafhaaW.PrintWords
def newRam (n : Int) : List Int := if ramSize n then List.replicate n.toNat 0 else []
set_option maxHeartbeats 400000 in
theorem spec_NewRam (n : Int) (w : World) :
    Calls Try.prog 101 #[.int .i64 n] w fun e w' => ∃ A1 c1, e = .returned (.agg #[.slice A1 (newRam n).length c1]) ∧ OwnB w' w.heap.size (.slice A1 (newRam n).length c1) (newRam n) ∧ Below w.heap.size w w' := by
  by_cases hb : ramSize n = true
  · have e : newRam n = List.replicate n.toNat 0 := by simp [newRam, hb]
    have hp := ramSize_le hb
    rw [e, List.length_replicate]
    simp [ramSize] at hb
    rcases hb with (((hb | hb) | hb) | hb) | hb
    · have HB := Aside0.mk (Below.refl w.heap.size w); go_enter Try.func101, Try.ntmps101
      go_wp2_with ((with_reducible refine gate_dst (N := 11) rfl ?_); refine Kd.R_make (Kd.int .u8) _ 5 rfl (N := 11) rfl 22 _ _ rfl n rfl rfl Try.underlying22 (.int .u8 0) 1 infoU8 rfl (by decide) (by omega) 0 (ok := fun _ => True) (okp := fun _ => True) rfl (fun _ hk => hk) trivial (by omega) (by omega) (Below.refl _ _) (Nat.le_refl _) ?_; intro v1 w3 ho hb hg hn; obtain ⟨A1, c1, e1, hc1, hr1⟩ := Kd.R_reads ho; simp only [List.length_replicate] at e1; subst e1; have HO := Aside0.mk (show OwnB _ _ _ _ from ho); clear ho hn hg hr1 hc1; have HB := Aside0.mk (below_step (w := w) (by (repeat (first | (with_reducible exact Below.refl _ _) | (with_reducible assumption) | ((with_reducible apply Aside0.out); with_reducible assumption) | (with_reducible apply below_alloc) | (with_reducible apply below_drew1) | (with_reducible apply pw_below_drewN) | ((with_reducible refine below_set ?_ ?_); rotate_left; (first | omega | (simp; done) | (simp; omega)))))) hb); have hz3 := hb.size; obtain ⟨hcl3, hfr3, hlt3, _⟩ := bcell hb; (try simp only [World.size_alloc, World.size_setCell, World.size_drew] at hz3); (try simp only [World.size_alloc, World.size_setCell, World.size_drew] at hcl3 hfr3 hlt3); have hk3_0 : w.heap.size < w3.heap.size := (by omega); have HB3 := Aside0.mk (Below.refl w3.heap.size w3); clear hb)
      (refine bodyPost_ret (v := .agg #[.slice A1 n.toNat c1]) (by (simp only [results, Try.results101]; go_simp <;> (rfl))) rfl ?_)
      exact ⟨_, _, rfl, (by (apply OwnB.lower; (repeat (first | (with_reducible exact HO.out) | (with_reducible apply OwnB.alloc) | (with_reducible apply OwnB.drew) | (with_reducible apply OwnB.drewN) | (with_reducible apply OwnB.set))); all_goals (first | omega | (simp; done) | (simp; omega)))), by (repeat (first | (with_reducible exact Below.refl _ _) | (with_reducible assumption) | ((with_reducible apply Aside0.out); with_reducible assumption) | (with_reducible apply below_alloc) | (with_reducible apply below_drew1) | (with_reducible apply pw_below_drewN) | ((with_reducible refine below_set ?_ ?_); rotate_left; (first | omega | (simp; done) | (simp; omega)))))⟩
    · have HB := Aside0.mk (Below.refl w.heap.size w); go_enter Try.func101, Try.ntmps101
      go_wp2_with ((with_reducible refine gate_dst (N := 11) rfl ?_); refine Kd.R_make (Kd.int .u8) _ 5 rfl (N := 11) rfl 22 _ _ rfl n rfl rfl Try.underlying22 (.int .u8 0) 1 infoU8 rfl (by decide) (by omega) 0 (ok := fun _ => True) (okp := fun _ => True) rfl (fun _ hk => hk) trivial (by omega) (by omega) (Below.refl _ _) (Nat.le_refl _) ?_; intro v1 w3 ho hb hg hn; obtain ⟨A1, c1, e1, hc1, hr1⟩ := Kd.R_reads ho; simp only [List.length_replicate] at e1; subst e1; have HO := Aside0.mk (show OwnB _ _ _ _ from ho); clear ho hn hg hr1 hc1; have HB := Aside0.mk (below_step (w := w) (by (repeat (first | (with_reducible exact Below.refl _ _) | (with_reducible assumption) | ((with_reducible apply Aside0.out); with_reducible assumption) | (with_reducible apply below_alloc) | (with_reducible apply below_drew1) | (with_reducible apply pw_below_drewN) | ((with_reducible refine below_set ?_ ?_); rotate_left; (first | omega | (simp; done) | (simp; omega)))))) hb); have hz3 := hb.size; obtain ⟨hcl3, hfr3, hlt3, _⟩ := bcell hb; (try simp only [World.size_alloc, World.size_setCell, World.size_drew] at hz3); (try simp only [World.size_alloc, World.size_setCell, World.size_drew] at hcl3 hfr3 hlt3); have hk3_0 : w.heap.size < w3.heap.size := (by omega); have HB3 := Aside0.mk (Below.refl w3.heap.size w3); clear hb)
      (refine bodyPost_ret (v := .agg #[.slice A1 n.toNat c1]) (by (simp only [results, Try.results101]; go_simp <;> (rfl))) rfl ?_)
      exact ⟨_, _, rfl, (by (apply OwnB.lower; (repeat (first | (with_reducible exact HO.out) | (with_reducible apply OwnB.alloc) | (with_reducible apply OwnB.drew) | (with_reducible apply OwnB.drewN) | (with_reducible apply OwnB.set))); all_goals (first | omega | (simp; done) | (simp; omega)))), by (repeat (first | (with_reducible exact Below.refl _ _) | (with_reducible assumption) | ((with_reducible apply Aside0.out); with_reducible assumption) | (with_reducible apply below_alloc) | (with_reducible apply below_drew1) | (with_reducible apply pw_below_drewN) | ((with_reducible refine below_set ?_ ?_); rotate_left; (first | omega | (simp; done) | (simp; omega)))))⟩
    · have HB := Aside0.mk (Below.refl w.heap.size w); go_enter Try.func101, Try.ntmps101
      go_wp2_with ((with_reducible refine gate_dst (N := 11) rfl ?_); refine Kd.R_make (Kd.int .u8) _ 5 rfl (N := 11) rfl 22 _ _ rfl n rfl rfl Try.underlying22 (.int .u8 0) 1 infoU8 rfl (by decide) (by omega) 0 (ok := fun _ => True) (okp := fun _ => True) rfl (fun _ hk => hk) trivial (by omega) (by omega) (Below.refl _ _) (Nat.le_refl _) ?_; intro v1 w3 ho hb hg hn; obtain ⟨A1, c1, e1, hc1, hr1⟩ := Kd.R_reads ho; simp only [List.length_replicate] at e1; subst e1; have HO := Aside0.mk (show OwnB _ _ _ _ from ho); clear ho hn hg hr1 hc1; have HB := Aside0.mk (below_step (w := w) (by (repeat (first | (with_reducible exact Below.refl _ _) | (with_reducible assumption) | ((with_reducible apply Aside0.out); with_reducible assumption) | (with_reducible apply below_alloc) | (with_reducible apply below_drew1) | (with_reducible apply pw_below_drewN) | ((with_reducible refine below_set ?_ ?_); rotate_left; (first | omega | (simp; done) | (simp; omega)))))) hb); have hz3 := hb.size; obtain ⟨hcl3, hfr3, hlt3, _⟩ := bcell hb; (try simp only [World.size_alloc, World.size_setCell, World.size_drew] at hz3); (try simp only [World.size_alloc, World.size_setCell, World.size_drew] at hcl3 hfr3 hlt3); have hk3_0 : w.heap.size < w3.heap.size := (by omega); have HB3 := Aside0.mk (Below.refl w3.heap.size w3); clear hb)
      (refine bodyPost_ret (v := .agg #[.slice A1 n.toNat c1]) (by (simp only [results, Try.results101]; go_simp <;> (rfl))) rfl ?_)
      exact ⟨_, _, rfl, (by (apply OwnB.lower; (repeat (first | (with_reducible exact HO.out) | (with_reducible apply OwnB.alloc) | (with_reducible apply OwnB.drew) | (with_reducible apply OwnB.drewN) | (with_reducible apply OwnB.set))); all_goals (first | omega | (simp; done) | (simp; omega)))), by (repeat (first | (with_reducible exact Below.refl _ _) | (with_reducible assumption) | ((with_reducible apply Aside0.out); with_reducible assumption) | (with_reducible apply below_alloc) | (with_reducible apply below_drew1) | (with_reducible apply pw_below_drewN) | ((with_reducible refine below_set ?_ ?_); rotate_left; (first | omega | (simp; done) | (simp; omega)))))⟩
    · have HB := Aside0.mk (Below.refl w.heap.size w); go_enter Try.func101, Try.ntmps101
      go_wp2_with ((with_reducible refine gate_dst (N := 11) rfl ?_); refine Kd.R_make (Kd.int .u8) _ 5 rfl (N := 11) rfl 22 _ _ rfl n rfl rfl Try.underlying22 (.int .u8 0) 1 infoU8 rfl (by decide) (by omega) 0 (ok := fun _ => True) (okp := fun _ => True) rfl (fun _ hk => hk) trivial (by omega) (by omega) (Below.refl _ _) (Nat.le_refl _) ?_; intro v1 w3 ho hb hg hn; obtain ⟨A1, c1, e1, hc1, hr1⟩ := Kd.R_reads ho; simp only [List.length_replicate] at e1; subst e1; have HO := Aside0.mk (show OwnB _ _ _ _ from ho); clear ho hn hg hr1 hc1; have HB := Aside0.mk (below_step (w := w) (by (repeat (first | (with_reducible exact Below.refl _ _) | (with_reducible assumption) | ((with_reducible apply Aside0.out); with_reducible assumption) | (with_reducible apply below_alloc) | (with_reducible apply below_drew1) | (with_reducible apply pw_below_drewN) | ((with_reducible refine below_set ?_ ?_); rotate_left; (first | omega | (simp; done) | (simp; omega)))))) hb); have hz3 := hb.size; obtain ⟨hcl3, hfr3, hlt3, _⟩ := bcell hb; (try simp only [World.size_alloc, World.size_setCell, World.size_drew] at hz3); (try simp only [World.size_alloc, World.size_setCell, World.size_drew] at hcl3 hfr3 hlt3); have hk3_0 : w.heap.size < w3.heap.size := (by omega); have HB3 := Aside0.mk (Below.refl w3.heap.size w3); clear hb)
      (refine bodyPost_ret (v := .agg #[.slice A1 n.toNat c1]) (by (simp only [results, Try.results101]; go_simp <;> (rfl))) rfl ?_)
      exact ⟨_, _, rfl, (by (apply OwnB.lower; (repeat (first | (with_reducible exact HO.out) | (with_reducible apply OwnB.alloc) | (with_reducible apply OwnB.drew) | (with_reducible apply OwnB.drewN) | (with_reducible apply OwnB.set))); all_goals (first | omega | (simp; done) | (simp; omega)))), by (repeat (first | (with_reducible exact Below.refl _ _) | (with_reducible assumption) | ((with_reducible apply Aside0.out); with_reducible assumption) | (with_reducible apply below_alloc) | (with_reducible apply below_drew1) | (with_reducible apply pw_below_drewN) | ((with_reducible refine below_set ?_ ?_); rotate_left; (first | omega | (simp; done) | (simp; omega)))))⟩
    · have HB := Aside0.mk (Below.refl w.heap.size w); go_enter Try.func101, Try.ntmps101
      go_wp2_with ((with_reducible refine gate_dst (N := 11) rfl ?_); refine Kd.R_make (Kd.int .u8) _ 5 rfl (N := 11) rfl 22 _ _ rfl n rfl rfl Try.underlying22 (.int .u8 0) 1 infoU8 rfl (by decide) (by omega) 0 (ok := fun _ => True) (okp := fun _ => True) rfl (fun _ hk => hk) trivial (by omega) (by omega) (Below.refl _ _) (Nat.le_refl _) ?_; intro v1 w3 ho hb hg hn; obtain ⟨A1, c1, e1, hc1, hr1⟩ := Kd.R_reads ho; simp only [List.length_replicate] at e1; subst e1; have HO := Aside0.mk (show OwnB _ _ _ _ from ho); clear ho hn hg hr1 hc1; have HB := Aside0.mk (below_step (w := w) (by (repeat (first | (with_reducible exact Below.refl _ _) | (with_reducible assumption) | ((with_reducible apply Aside0.out); with_reducible assumption) | (with_reducible apply below_alloc) | (with_reducible apply below_drew1) | (with_reducible apply pw_below_drewN) | ((with_reducible refine below_set ?_ ?_); rotate_left; (first | omega | (simp; done) | (simp; omega)))))) hb); have hz3 := hb.size; obtain ⟨hcl3, hfr3, hlt3, _⟩ := bcell hb; (try simp only [World.size_alloc, World.size_setCell, World.size_drew] at hz3); (try simp only [World.size_alloc, World.size_setCell, World.size_drew] at hcl3 hfr3 hlt3); have hk3_0 : w.heap.size < w3.heap.size := (by omega); have HB3 := Aside0.mk (Below.refl w3.heap.size w3); clear hb)
      (refine bodyPost_ret (v := .agg #[.slice A1 n.toNat c1]) (by (simp only [results, Try.results101]; go_simp <;> (rfl))) rfl ?_)
      exact ⟨_, _, rfl, (by (apply OwnB.lower; (repeat (first | (with_reducible exact HO.out) | (with_reducible apply OwnB.alloc) | (with_reducible apply OwnB.drew) | (with_reducible apply OwnB.drewN) | (with_reducible apply OwnB.set))); all_goals (first | omega | (simp; done) | (simp; omega)))), by (repeat (first | (with_reducible exact Below.refl _ _) | (with_reducible assumption) | ((with_reducible apply Aside0.out); with_reducible assumption) | (with_reducible apply below_alloc) | (with_reducible apply below_drew1) | (with_reducible apply pw_below_drewN) | ((with_reducible refine below_set ?_ ?_); rotate_left; (first | omega | (simp; done) | (simp; omega)))))⟩
  · have e : newRam n = [] := by simp [newRam, hb]
    rw [e]
    simp [ramSize] at hb
    obtain ⟨⟨⟨⟨n1, n2⟩, n3⟩, n4⟩, n5⟩ := hb
    have HB := Aside0.mk (Below.refl w.heap.size w); go_enter Try.func101, Try.ntmps101
    go_wp2
    (refine bodyPost_ret (v := .agg #[.slice none 0 0]) (by (simp only [results, Try.results101]; go_simp <;> (rfl))) rfl ?_)
    exact ⟨none, 0, rfl, Kd.R_nil _ _ _ _ _, by (repeat (first | (with_reducible exact Below.refl _ _) | (with_reducible assumption) | ((with_reducible apply Aside0.out); with_reducible assumption) | (with_reducible apply below_alloc) | (with_reducible apply below_drew1) | (with_reducible apply pw_below_drewN) | ((with_reducible refine below_set ?_ ?_); rotate_left; (first | omega | (simp; done) | (simp; omega)))))⟩
theorem rd_zeros (m : Nat) (i : Int) : rd (List.replicate m 0) i = 0 := by
  unfold rd
  rw [List.getD_eq_getElem?_getD, List.getElem?_replicate]
  split <;> rfl
theorem newRam_rd (n i : Int) : rd (newRam n) i = 0 := by
  unfold newRam
  split
  · exact rd_zeros _ _
  · rfl
theorem newRam_b (n : Int) : ∀ i, 0 ≤ rd (newRam n) i ∧ rd (newRam n) i < 256 := fun i => by rw [newRam_rd]; omega
theorem newRam_peek (n a : Int) : peek (newRam n) a = 0 := by
  unfold peek
  split
  · exact newRam_rd _ _
  · rfl
theorem newRam_ok (n : Int) : ramSize (newRam n).length = decide ((0 : Int) < (newRam n).length) := by
  unfold newRam
  split
  · next h =>
    have := ramSize_le h
    rw [List.length_replicate, Int.toNat_of_nonneg (by omega), h]
    simp
    omega
  · rfl
theorem newRam_le (n : Int) : (newRam n).length ≤ 4096 := by
  unfold newRam
  split
  · next h =>
    have := ramSize_le h
    rw [List.length_replicate]
    omega
  · simp
theorem drawn_n (k : Nat) (h : k < 11) : -1 ≤ rd [0, 1, -1, 128, 256, 512, 1024, 2048, 4096, 8192, 300] k ∧ rd [0, 1, -1, 128, 256, 512, 1024, 2048, 4096, 8192, 300] k ≤ 8192 :=
  (by decide : ∀ k : Nat, k < 11 → -1 ≤ rd [0, 1, -1, 128, 256, 512, 1024, 2048, 4096, 8192, 300] k ∧ rd [0, 1, -1, 128, 256, 512, 1024, 2048, 4096, 8192, 300] k ≤ 8192) k h
@[go_sem] theorem run_field_ram (A : Option Addr) (n c : Nat) (w : World) : Sem.run Try.prog (Instr.field 25 (.agg #[.slice A n c]) 0) w = .ok (.slice A n c) w := by kernel_rfl
theorem w16 (x : Int) : 0 ≤ IntKind.u16.wrap x ∧ IntKind.u16.wrap x < 65536 := by rw [IntKind.wrap_u16]; omega
theorem impl_RamOk_new (A : Option Addr) (c : Nat) (n : Int) (w : World) : Calls Try.prog 42 #[.agg #[.slice A (newRam n).length c]] w fun e w' => e = .returned (.bool (decide ((0 : Int) < (newRam n).length))) ∧ Below w.heap.size w w' := by
  have := impl_RamOk A c (newRam n) w
  rw [newRam_ok] at this
  exact this
theorem impl_Peek_new (A : Option Addr) (c : Nat) (n a : Int) (w : World) (h : Bs w A (newRam n)) (h0 : 0 ≤ a) (h1 : a < 65536) : Calls Try.prog 11 #[.agg #[.slice A (newRam n).length c], .int .u16 a] w fun e w' => e = .returned (.int .u8 0) ∧ Below w.heap.size w w' := by
  have := impl_Peek A c (newRam n) a w h h0 h1
  rw [newRam_peek] at this
  exact this
end Go.Proofs.Ytgdfehacijafhaa
