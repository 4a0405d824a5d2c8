/- The processor at first. -/
import Derived.Test.YtohnclkhamccfaaRam
set_option linter.unusedVariables false
set_option linter.unusedSimpArgs false
namespace Go.Proofs.Ytohnclkhamccfaa
open Go.RowKit Go.Proofs.YtohnclkhamccfaaW.PrintWords
theorem u16_join (lo hi : Int) (h0 : 0 ≤ lo) (h1 : lo < 256) (h2 : 0 ≤ hi) (h3 : hi < 256) : bits .or .u16 (hi * 256) lo = lo + 256 * hi := by
  rw [bits_join .u16 16 (by decide) (fun n h0 h1 => by rw [IntKind.wrap_u16]; omega) 8 (hi * 256) lo (by omega) (by omega) (by omega) (by omega) (by omega) (by omega)]
  omega
theorem u16_wrap_in (n : Int) (h : 0 ≤ n ∧ n < 65536) : IntKind.u16.wrap n = n := by rw [IntKind.wrap_u16]; omega
theorem spec_l04Word (lo hi : Int) (w : World) (h0 : 0 ≤ lo) (h1 : lo < 256) (h2 : 0 ≤ hi) (h3 : hi < 256) :
    Calls Try.prog 45 #[.int .u8 lo, .int .u8 hi] w fun e w' => e = .returned (.int .i64 (word2 lo hi)) ∧ w = w' := by
  have HB := Aside0.mk (Below.refl w.heap.size w); go_enter Try.func45, Try.ntmps45
  go_wp2
  go_ret
  exact ⟨rfl, rfl⟩
theorem impl_wordOf (lo hi : Int) (w : World) (h0 : 0 ≤ lo) (h1 : lo < 256) (h2 : 0 ≤ hi) (h3 : hi < 256) :
    Calls Try.prog 46 #[.int .u8 lo, .int .u8 hi] w fun e w' => e = .returned (.int .u16 (word2 lo hi)) ∧ w = w' := by
  have hj := u16_join lo hi h0 h1 h2 h3
  have HB := Aside0.mk (Below.refl w.heap.size w); go_enter Try.func46, Try.ntmps46
  go_wp2
  go_ret
  exact ⟨ret_of (by simp [word2, hj]), rfl⟩
theorem peek_b {w : World} {A : Option Addr} {l : List Int} (h : Bs w A l) (a : Int) : 0 ≤ peek l a ∧ peek l a < 256 := by
  unfold peek; split
  · exact h.b _
  · omega
set_option maxHeartbeats 400000 in
theorem impl_Cold (A : Option Addr) (c : Nat) (l : List Int) (w : World) (h : Bs w A l) :
    Calls Try.prog 32 #[.agg #[.slice A l.length c]] w fun e w' => e = .returned (.agg #[.int .u8 (cold l).A, .int .u8 (cold l).X, .int .u8 (cold l).Y, .int .u8 (cold l).S, .int .u16 (cold l).PC, .bool (cold l).F.N, .bool (cold l).F.V, .bool (cold l).F.D, .bool (cold l).F.I, .bool (cold l).F.Z, .bool (cold l).F.C]) ∧ Below w.heap.size w w' := by
  obtain ⟨b, hb⟩ : ∃ b, ramSize l.length = b := ⟨_, rfl⟩
  cases b
  · have HB := Aside0.mk (Below.refl w.heap.size w); go_enter Try.func32, Try.ntmps32
    go_wp2_with fail
    refine (impl_RamOk _ _ _ _).mono ?_
    rintro _ w1 ⟨rfl, hb⟩
    (have HB := Aside0.mk (below_step (w := w) (by (repeat (first | (with_reducible exact Below.refl _ _) | (with_reducible assumption) | ((with_reducible apply Aside0.out); with_reducible assumption) | (with_reducible apply below_alloc) | (with_reducible apply below_drew1) | (with_reducible apply pw_below_drewN) | ((with_reducible refine below_set ?_ ?_); rotate_left; (first | omega | (simp; done) | (simp; omega)))))) hb); have hz1 := hb.size; obtain ⟨hcl1, hfr1, hlt1, _⟩ := bcell hb; (try simp only [World.size_alloc, World.size_setCell, World.size_drew] at hz1); (try simp only [World.size_alloc, World.size_setCell, World.size_drew] at hcl1 hfr1 hlt1); have hk1_0 : w.heap.size < w1.heap.size := (by omega); have hk1_1 : w.heap.size + 1 < w1.heap.size := (by omega); have HB1 := Aside0.mk (Below.refl w1.heap.size w1); clear hb)
    go_wp2_with fail
    (refine bodyPost_ret (v := .agg #[.int .u8 (cold l).A, .int .u8 (cold l).X, .int .u8 (cold l).Y, .int .u8 (cold l).S, .int .u16 (cold l).PC, .bool (cold l).F.N, .bool (cold l).F.V, .bool (cold l).F.D, .bool (cold l).F.I, .bool (cold l).F.Z, .bool (cold l).F.C]) (by (simp only [results, Try.results32]; go_simp <;> (simp [cold, hb]))) rfl ?_)
    exact ⟨rfl, by (repeat (first | (with_reducible exact Below.refl _ _) | (with_reducible assumption) | ((with_reducible apply Aside0.out); with_reducible assumption) | (with_reducible apply below_alloc) | (with_reducible apply below_drew1) | (with_reducible apply pw_below_drewN) | ((with_reducible refine below_set ?_ ?_); rotate_left; (first | omega | (simp; done) | (simp; omega)))))⟩
  · have p0 := peek_b h 65532
    have p1 := peek_b h 65533
    have HB := Aside0.mk (Below.refl w.heap.size w); go_enter Try.func32, Try.ntmps32
    go_wp2_with fail
    refine (impl_RamOk _ _ _ _).mono ?_
    rintro _ w1 ⟨rfl, hb⟩
    (have HB := Aside0.mk (below_step (w := w) (by (repeat (first | (with_reducible exact Below.refl _ _) | (with_reducible assumption) | ((with_reducible apply Aside0.out); with_reducible assumption) | (with_reducible apply below_alloc) | (with_reducible apply below_drew1) | (with_reducible apply pw_below_drewN) | ((with_reducible refine below_set ?_ ?_); rotate_left; (first | omega | (simp; done) | (simp; omega)))))) hb); have hz1 := hb.size; obtain ⟨hcl1, hfr1, hlt1, _⟩ := bcell hb; (try simp only [World.size_alloc, World.size_setCell, World.size_drew] at hz1); (try simp only [World.size_alloc, World.size_setCell, World.size_drew] at hcl1 hfr1 hlt1); have hk1_0 : w.heap.size < w1.heap.size := (by omega); have hk1_1 : w.heap.size + 1 < w1.heap.size := (by omega); have HB1 := Aside0.mk (Below.refl w1.heap.size w1); clear hb)
    go_wp2_with fail
    go_region_held3 (fun w' => Below w.heap.size w w' ∧ w'.cell? ⟨w.heap.size, 0, none⟩ = some (.slice A l.length c)) (first | (go_keep; done) | (go_split_ands; (repeat' apply And.intro) <;> (first | (with_reducible assumption) | (go_simp; done) | (repeat (first | (with_reducible exact Below.refl _ _) | (with_reducible assumption) | ((with_reducible apply Aside0.out); with_reducible assumption) | (with_reducible apply below_alloc) | (with_reducible apply below_drew1) | (with_reducible apply pw_below_drewN) | ((with_reducible refine below_set ?_ ?_); rotate_left; (first | omega | (simp; done) | (simp; omega)))))))) (first | (go_at_call 17; ((with_reducible refine (impl_Peek _ _ _ _ _ (h.below (by (repeat (first | (with_reducible exact Below.refl _ _) | (with_reducible assumption) | ((with_reducible apply Aside0.out); with_reducible assumption) | (with_reducible apply below_alloc) | (with_reducible apply below_drew1) | (with_reducible apply pw_below_drewN) | ((with_reducible refine below_set ?_ ?_); rotate_left; (first | omega | (simp; done) | (simp; omega))))))) (by omega) (by omega)).mono ?_); rintro _ w2 ⟨rfl, hb⟩; have HB := Aside0.mk (below_step (w := w) (by (repeat (first | (with_reducible exact Below.refl _ _) | (with_reducible assumption) | ((with_reducible apply Aside0.out); with_reducible assumption) | (with_reducible apply below_alloc) | (with_reducible apply below_drew1) | (with_reducible apply pw_below_drewN) | ((with_reducible refine below_set ?_ ?_); rotate_left; (first | omega | (simp; done) | (simp; omega)))))) hb); have hz2 := hb.size; obtain ⟨hcl2, hfr2, hlt2, _⟩ := bcell hb; (try simp only [World.size_alloc, World.size_setCell, World.size_drew] at hz2); (try simp only [World.size_alloc, World.size_setCell, World.size_drew] at hcl2 hfr2 hlt2); have hk2_0 : w.heap.size < w2.heap.size := (by omega); have hk2_1 : w.heap.size + 1 < w2.heap.size := (by omega); have HB2 := Aside0.mk (Below.refl w2.heap.size w2); clear hb)) | (go_at_call 46; ((with_reducible refine (impl_wordOf _ _ _ p0.1 p0.2 p1.1 p1.2).mono ?_); rintro _ _ ⟨rfl, rfl⟩)))
    go_wp2_with fail
    (refine bodyPost_ret (v := .agg #[.int .u8 (cold l).A, .int .u8 (cold l).X, .int .u8 (cold l).Y, .int .u8 (cold l).S, .int .u16 (cold l).PC, .bool (cold l).F.N, .bool (cold l).F.V, .bool (cold l).F.D, .bool (cold l).F.I, .bool (cold l).F.Z, .bool (cold l).F.C]) (by (simp only [results, Try.results32]; go_simp <;> (simp [cold, hb]))) rfl ?_)
    exact ⟨rfl, by (repeat (first | (with_reducible exact Below.refl _ _) | (with_reducible assumption) | ((with_reducible apply Aside0.out); with_reducible assumption) | (with_reducible apply below_alloc) | (with_reducible apply below_drew1) | (with_reducible apply pw_below_drewN) | ((with_reducible refine below_set ?_ ?_); rotate_left; (first | omega | (simp; done) | (simp; omega)))))⟩
theorem word2_b {a b : Int} (h : 0 ≤ a ∧ a < 256) (k : 0 ≤ b ∧ b < 256) : 0 ≤ word2 a b ∧ word2 a b < 65536 := by unfold word2; omega
set_option maxHeartbeats 400000 in
theorem spec_Cold (A : Option Addr) (c : Nat) (l : List Int) (w : World) (h : Bs w A l) :
    Calls Try.prog 31 #[.agg #[.slice A l.length c]] w fun e w' => e = .returned (.agg #[.int .u8 (cold l).A, .int .u8 (cold l).X, .int .u8 (cold l).Y, .int .u8 (cold l).S, .int .u16 (cold l).PC, .bool (cold l).F.N, .bool (cold l).F.V, .bool (cold l).F.D, .bool (cold l).F.I, .bool (cold l).F.Z, .bool (cold l).F.C]) ∧ Below w.heap.size w w' := by
  obtain ⟨b, hb⟩ : ∃ b, ramSize l.length = b := ⟨_, rfl⟩
  cases b
  · have HB := Aside0.mk (Below.refl w.heap.size w); go_enter Try.func31, Try.ntmps31
    go_wp2_with fail
    refine (spec_RamOk _ _ _ _).mono ?_
    rintro _ w1 ⟨rfl, hb⟩
    (have HB := Aside0.mk (below_step (w := w) (by (repeat (first | (with_reducible exact Below.refl _ _) | (with_reducible assumption) | ((with_reducible apply Aside0.out); with_reducible assumption) | (with_reducible apply below_alloc) | (with_reducible apply below_drew1) | (with_reducible apply pw_below_drewN) | ((with_reducible refine below_set ?_ ?_); rotate_left; (first | omega | (simp; done) | (simp; omega)))))) hb); have hz1 := hb.size; obtain ⟨hcl1, hfr1, hlt1, _⟩ := bcell hb; (try simp only [World.size_alloc, World.size_setCell, World.size_drew] at hz1); (try simp only [World.size_alloc, World.size_setCell, World.size_drew] at hcl1 hfr1 hlt1); have hk1_0 : w.heap.size < w1.heap.size := (by omega); have hk1_1 : w.heap.size + 1 < w1.heap.size := (by omega); have HB1 := Aside0.mk (Below.refl w1.heap.size w1); clear hb)
    go_wp2_with fail
    (refine bodyPost_ret (v := .agg #[.int .u8 (cold l).A, .int .u8 (cold l).X, .int .u8 (cold l).Y, .int .u8 (cold l).S, .int .u16 (cold l).PC, .bool (cold l).F.N, .bool (cold l).F.V, .bool (cold l).F.D, .bool (cold l).F.I, .bool (cold l).F.Z, .bool (cold l).F.C]) (by (simp only [results, Try.results31]; go_simp <;> (simp [cold, hb]))) rfl ?_)
    exact ⟨rfl, by (repeat (first | (with_reducible exact Below.refl _ _) | (with_reducible assumption) | ((with_reducible apply Aside0.out); with_reducible assumption) | (with_reducible apply below_alloc) | (with_reducible apply below_drew1) | (with_reducible apply pw_below_drewN) | ((with_reducible refine below_set ?_ ?_); rotate_left; (first | omega | (simp; done) | (simp; omega)))))⟩
  · have p0 := peek_b h 65532
    have p1 := peek_b h 65533
    have p2 := word2_b p0 p1
    have HB := Aside0.mk (Below.refl w.heap.size w); go_enter Try.func31, Try.ntmps31
    go_wp2_with fail
    refine (spec_RamOk _ _ _ _).mono ?_
    rintro _ w1 ⟨rfl, hb⟩
    (have HB := Aside0.mk (below_step (w := w) (by (repeat (first | (with_reducible exact Below.refl _ _) | (with_reducible assumption) | ((with_reducible apply Aside0.out); with_reducible assumption) | (with_reducible apply below_alloc) | (with_reducible apply below_drew1) | (with_reducible apply pw_below_drewN) | ((with_reducible refine below_set ?_ ?_); rotate_left; (first | omega | (simp; done) | (simp; omega)))))) hb); have hz1 := hb.size; obtain ⟨hcl1, hfr1, hlt1, _⟩ := bcell hb; (try simp only [World.size_alloc, World.size_setCell, World.size_drew] at hz1); (try simp only [World.size_alloc, World.size_setCell, World.size_drew] at hcl1 hfr1 hlt1); have hk1_0 : w.heap.size < w1.heap.size := (by omega); have hk1_1 : w.heap.size + 1 < w1.heap.size := (by omega); have HB1 := Aside0.mk (Below.refl w1.heap.size w1); clear hb)
    go_wp2_with fail
    go_region_held3 (fun w' => Below w.heap.size w w' ∧ w'.cell? ⟨w.heap.size, 0, none⟩ = some (.slice A l.length c)) (first | (go_keep; done) | (go_split_ands; (repeat' apply And.intro) <;> (first | (with_reducible assumption) | (go_simp; done) | (repeat (first | (with_reducible exact Below.refl _ _) | (with_reducible assumption) | ((with_reducible apply Aside0.out); with_reducible assumption) | (with_reducible apply below_alloc) | (with_reducible apply below_drew1) | (with_reducible apply pw_below_drewN) | ((with_reducible refine below_set ?_ ?_); rotate_left; (first | omega | (simp; done) | (simp; omega)))))))) (first | (go_at_call 19; ((with_reducible refine (spec_Peek _ _ _ _ _ (h.below (by (repeat (first | (with_reducible exact Below.refl _ _) | (with_reducible assumption) | ((with_reducible apply Aside0.out); with_reducible assumption) | (with_reducible apply below_alloc) | (with_reducible apply below_drew1) | (with_reducible apply pw_below_drewN) | ((with_reducible refine below_set ?_ ?_); rotate_left; (first | omega | (simp; done) | (simp; omega))))))) (by omega) (by omega)).mono ?_); rintro _ w2 ⟨rfl, hb⟩; have HB := Aside0.mk (below_step (w := w) (by (repeat (first | (with_reducible exact Below.refl _ _) | (with_reducible assumption) | ((with_reducible apply Aside0.out); with_reducible assumption) | (with_reducible apply below_alloc) | (with_reducible apply below_drew1) | (with_reducible apply pw_below_drewN) | ((with_reducible refine below_set ?_ ?_); rotate_left; (first | omega | (simp; done) | (simp; omega)))))) hb); have hz2 := hb.size; obtain ⟨hcl2, hfr2, hlt2, _⟩ := bcell hb; (try simp only [World.size_alloc, World.size_setCell, World.size_drew] at hz2); (try simp only [World.size_alloc, World.size_setCell, World.size_drew] at hcl2 hfr2 hlt2); have hk2_0 : w.heap.size < w2.heap.size := (by omega); have hk2_1 : w.heap.size + 1 < w2.heap.size := (by omega); have HB2 := Aside0.mk (Below.refl w2.heap.size w2); clear hb)) | (go_at_call 45; ((with_reducible refine (spec_l04Word _ _ _ p0.1 p0.2 p1.1 p1.2).mono ?_); rintro _ _ ⟨rfl, rfl⟩)))
    go_wp2_with fail
    (refine bodyPost_ret (v := .agg #[.int .u8 (cold l).A, .int .u8 (cold l).X, .int .u8 (cold l).Y, .int .u8 (cold l).S, .int .u16 (cold l).PC, .bool (cold l).F.N, .bool (cold l).F.V, .bool (cold l).F.D, .bool (cold l).F.I, .bool (cold l).F.Z, .bool (cold l).F.C]) (by (simp only [results, Try.results31]; go_simp <;> ((simp [cold, hb]; exact u16_wrap_in _ p2)))) rfl ?_)
    exact ⟨rfl, by (repeat (first | (with_reducible exact Below.refl _ _) | (with_reducible assumption) | ((with_reducible apply Aside0.out); with_reducible assumption) | (with_reducible apply below_alloc) | (with_reducible apply below_drew1) | (with_reducible apply pw_below_drewN) | ((with_reducible refine below_set ?_ ?_); rotate_left; (first | omega | (simp; done) | (simp; omega)))))⟩
set_option maxHeartbeats 400000 in
theorem laws_eqFlags (f : F6) (w : World) : Calls Try.prog 47 #[.agg #[.bool f.N, .bool f.V, .bool f.D, .bool f.I, .bool f.Z, .bool f.C], .agg #[.bool f.N, .bool f.V, .bool f.D, .bool f.I, .bool f.Z, .bool f.C]] w fun e w' => e = .returned (.bool true) ∧ Below w.heap.size w w' := by
  have HB := Aside0.mk (Below.refl w.heap.size w); go_enter Try.func47, Try.ntmps47
  go_wp2
  go_ret
  exact ⟨rfl, by (repeat (first | (with_reducible exact Below.refl _ _) | (with_reducible assumption) | ((with_reducible apply Aside0.out); with_reducible assumption) | (with_reducible apply below_alloc) | (with_reducible apply below_drew1) | (with_reducible apply pw_below_drewN) | ((with_reducible refine below_set ?_ ?_); rotate_left; (first | omega | (simp; done) | (simp; omega)))))⟩
set_option maxHeartbeats 400000 in
theorem laws_eqCpu (c : Cpu) (w : World) : Calls Try.prog 33 #[.agg #[.int .u8 c.A, .int .u8 c.X, .int .u8 c.Y, .int .u8 c.S, .int .u16 c.PC, .bool c.F.N, .bool c.F.V, .bool c.F.D, .bool c.F.I, .bool c.F.Z, .bool c.F.C], .agg #[.int .u8 c.A, .int .u8 c.X, .int .u8 c.Y, .int .u8 c.S, .int .u16 c.PC, .bool c.F.N, .bool c.F.V, .bool c.F.D, .bool c.F.I, .bool c.F.Z, .bool c.F.C]] w fun e w' => e = .returned (.bool true) ∧ Below w.heap.size w w' := by
  have HB := Aside0.mk (Below.refl w.heap.size w); go_enter Try.func33, Try.ntmps33
  go_wp2_with fail
  refine (laws_eqFlags c.F _).mono ?_
  rintro _ w1 ⟨rfl, hb⟩
  (have HB := Aside0.mk (below_step (w := w) (by (repeat (first | (with_reducible exact Below.refl _ _) | (with_reducible assumption) | ((with_reducible apply Aside0.out); with_reducible assumption) | (with_reducible apply below_alloc) | (with_reducible apply below_drew1) | (with_reducible apply pw_below_drewN) | ((with_reducible refine below_set ?_ ?_); rotate_left; (first | omega | (simp; done) | (simp; omega)))))) hb); have hz1 := hb.size; obtain ⟨hcl1, hfr1, hlt1, _⟩ := bcell hb; (try simp only [World.size_alloc, World.size_setCell, World.size_drew] at hz1); (try simp only [World.size_alloc, World.size_setCell, World.size_drew] at hcl1 hfr1 hlt1); have hk1_0 : w.heap.size < w1.heap.size := (by omega); have hk1_1 : w.heap.size + 1 < w1.heap.size := (by omega); have HB1 := Aside0.mk (Below.refl w1.heap.size w1); clear hb)
  go_wp2
  go_ret
  exact ⟨rfl, by (repeat (first | (with_reducible exact Below.refl _ _) | (with_reducible assumption) | ((with_reducible apply Aside0.out); with_reducible assumption) | (with_reducible apply below_alloc) | (with_reducible apply below_drew1) | (with_reducible apply pw_below_drewN) | ((with_reducible refine below_set ?_ ?_); rotate_left; (first | omega | (simp; done) | (simp; omega)))))⟩
end Go.Proofs.Ytohnclkhamccfaa
