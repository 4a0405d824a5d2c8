/- Desks of the exact laws: a processor, a memory and a list. -/
import Derived.Test.YtbkdalbmbegpdaaApply
import Derived.Test.YtbkdalbmbegpdaaNewRam
import Derived.Test.YtbkdalbmbegpdaaMark
import Derived.Test.YtbkdalbmbegpdaaCold
set_option linter.unusedVariables false
set_option linter.unusedSimpArgs false
namespace Go.Proofs.Ytbkdalbmbegpdaa
open Go.RowKit Go.Proofs.YtbkdalbmbegpdaaW.PrintWords
def Cpu.ok (x : Cpu) : Prop := 0 ≤ x.A ∧ x.A < 256 ∧ 0 ≤ x.X ∧ x.X < 256 ∧ 0 ≤ x.Y ∧ x.Y < 256 ∧ 0 ≤ x.S ∧ x.S < 256 ∧ 0 ≤ x.PC ∧ x.PC < 65536
theorem OwnC.lower {w : World} {base base' : Nat} {v : Value} {l : List Cyc} (h : OwnC w base v l) (hb : base' ≤ base) : OwnC w base' v l := Kd.R_lower h hb
theorem OwnC.alloc {w : World} {base : Nat} {v : Value} {l : List Cyc} (h : OwnC w base v l) (o : Obj) : OwnC (w.alloc o) base v l := h.below (below_alloc (Below.refl _ _) o)
theorem OwnC.drew {w : World} {base : Nat} {v : Value} {l : List Cyc} (h : OwnC w base v l) : OwnC w.drew base v l := h.below (below_drew1 (Below.refl _ _))
theorem OwnC.drewN {w : World} {base : Nat} {v : Value} {l : List Cyc} (h : OwnC w base v l) (n : Nat) : OwnC (w.drewN n) base v l := h.below (pw_below_drewN (Below.refl _ _) n)
theorem OwnC.set {w : World} {base : Nat} {v : Value} {l : List Cyc} (h : OwnC w base v l) {p : Addr} (hp : p.block < base) (u : Value) : OwnC (w.setCell p u) base v l :=
  Kd.R_mono (Kd.R_far (Kd.R_bound h) (fun k hk => by have := hk.2.1; omega) u) (fun _ _ => trivial)
theorem laws_toFlags (f : F6) (w : World) : Calls Try.prog 75 #[.agg #[.bool f.N, .bool f.V, .bool f.D, .bool f.I, .bool f.Z, .bool f.C]] w fun e w' => e = .returned (.agg #[.bool f.N, .bool f.V, .bool f.D, .bool f.I, .bool f.Z, .bool f.C]) ∧ Below w.heap.size w w' := by
  have HB := Aside0.mk (Below.refl w.heap.size w); go_enter Try.func75, Try.ntmps75
  go_wp2
  (refine bodyPost_ret (v := .agg #[.bool f.N, .bool f.V, .bool f.D, .bool f.I, .bool f.Z, .bool f.C]) (by (simp only [results, Try.results75]; go_simp <;> (rfl))) rfl ?_)
  exact ⟨rfl, by (repeat (first | (with_reducible exact Below.refl _ _) | (with_reducible assumption) | ((with_reducible apply Aside0.out); with_reducible assumption) | (with_reducible apply below_alloc) | (with_reducible apply below_drew1) | (with_reducible apply pw_below_drewN) | ((with_reducible refine below_set ?_ ?_); rotate_left; (first | omega | (simp; done) | (simp; omega)))))⟩
set_option maxHeartbeats 400000 in
theorem laws_toCpu (x : Cpu) (w : World) : Calls Try.prog 40 #[.agg #[.int .u8 x.A, .int .u8 x.X, .int .u8 x.Y, .int .u8 x.S, .int .u16 x.PC, .bool x.F.N, .bool x.F.V, .bool x.F.D, .bool x.F.I, .bool x.F.Z, .bool x.F.C]] w fun e w' => e = .returned (.agg #[.int .u8 x.A, .int .u8 x.X, .int .u8 x.Y, .int .u8 x.S, .int .u16 x.PC, .bool x.F.N, .bool x.F.V, .bool x.F.D, .bool x.F.I, .bool x.F.Z, .bool x.F.C]) ∧ Below w.heap.size w w' := by
  have HB := Aside0.mk (Below.refl w.heap.size w); go_enter Try.func40, Try.ntmps40
  go_wp2_with fail
  refine (laws_toFlags x.F _).mono ?_
  rintro _ w1 ⟨rfl, hb⟩
  (have HB := Aside0.mk (below_step (w := w) (by (repeat (first | (with_reducible exact Below.refl _ _) | (with_reducible assumption) | ((with_reducible apply Aside0.out); with_reducible assumption) | (with_reducible apply below_alloc) | (with_reducible apply below_drew1) | (with_reducible apply pw_below_drewN) | ((with_reducible refine below_set ?_ ?_); rotate_left; (first | omega | (simp; done) | (simp; omega)))))) hb); have hz1 := hb.size; obtain ⟨hcl1, hfr1, hlt1, _⟩ := bcell hb; (try simp only [World.size_alloc, World.size_setCell, World.size_drew] at hz1); (try simp only [World.size_alloc, World.size_setCell, World.size_drew] at hcl1 hfr1 hlt1); have hk1_0 : w.heap.size < w1.heap.size := (by omega); have hk1_1 : w.heap.size + 1 < w1.heap.size := (by omega); have hk1_2 : w.heap.size + 1 + 1 < w1.heap.size := (by omega); have HB1 := Aside0.mk (Below.refl w1.heap.size w1); clear hb)
  go_wp2_with fail
  (refine bodyPost_ret (v := .agg #[.int .u8 x.A, .int .u8 x.X, .int .u8 x.Y, .int .u8 x.S, .int .u16 x.PC, .bool x.F.N, .bool x.F.V, .bool x.F.D, .bool x.F.I, .bool x.F.Z, .bool x.F.C]) (by (simp only [results, Try.results40]; go_simp <;> (rfl))) rfl ?_)
  exact ⟨rfl, by (repeat (first | (with_reducible exact Below.refl _ _) | (with_reducible assumption) | ((with_reducible apply Aside0.out); with_reducible assumption) | (with_reducible apply below_alloc) | (with_reducible apply below_drew1) | (with_reducible apply pw_below_drewN) | ((with_reducible refine below_set ?_ ?_); rotate_left; (first | omega | (simp; done) | (simp; omega)))))⟩
theorem impl_DeskOk (x : Cpu) (A : Option Addr) (l : List Int) (c : Nat) (B : Option Addr) (r : List Cyc) (d : Nat) (w : World) (hr : r.length ≤ 9223372036854775807) :
    Calls Try.prog 29 #[.agg #[.int .u8 x.A, .int .u8 x.X, .int .u8 x.Y, .int .u8 x.S, .int .u16 x.PC, .bool x.F.N, .bool x.F.V, .bool x.F.D, .bool x.F.I, .bool x.F.Z, .bool x.F.C, .slice A l.length c, .slice B r.length d]] w fun e w' => e = .returned (.bool (ramSize l.length && decide ((r.length : Int) ≤ 1200))) ∧ Below w.heap.size w w' := by
  obtain ⟨b, hb⟩ : ∃ b, ramSize l.length = b := ⟨_, rfl⟩
  cases b
  · have HB := Aside0.mk (Below.refl w.heap.size w); go_enter Try.func29, Try.ntmps29
    go_wp2_with fail
    refine (impl_RamOk _ _ _ _).mono ?_
    rintro _ w1 ⟨rfl, hb⟩
    (have HB := Aside0.mk (below_step (w := w) (by (repeat (first | (with_reducible exact Below.refl _ _) | (with_reducible assumption) | ((with_reducible apply Aside0.out); with_reducible assumption) | (with_reducible apply below_alloc) | (with_reducible apply below_drew1) | (with_reducible apply pw_below_drewN) | ((with_reducible refine below_set ?_ ?_); rotate_left; (first | omega | (simp; done) | (simp; omega)))))) hb); have hz1 := hb.size; obtain ⟨hcl1, hfr1, hlt1, _⟩ := bcell hb; (try simp only [World.size_alloc, World.size_setCell, World.size_drew] at hz1); (try simp only [World.size_alloc, World.size_setCell, World.size_drew] at hcl1 hfr1 hlt1); have hk1_0 : w.heap.size < w1.heap.size := (by omega); have HB1 := Aside0.mk (Below.refl w1.heap.size w1); clear hb)
    go_wp2
    go_ret
    exact ⟨ret_of (by simp [*]), by (repeat (first | (with_reducible exact Below.refl _ _) | (with_reducible assumption) | ((with_reducible apply Aside0.out); with_reducible assumption) | (with_reducible apply below_alloc) | (with_reducible apply below_drew1) | (with_reducible apply pw_below_drewN) | ((with_reducible refine below_set ?_ ?_); rotate_left; (first | omega | (simp; done) | (simp; omega)))))⟩
  · have HB := Aside0.mk (Below.refl w.heap.size w); go_enter Try.func29, Try.ntmps29
    go_wp2_with fail
    refine (impl_RamOk _ _ _ _).mono ?_
    rintro _ w1 ⟨rfl, hb⟩
    (have HB := Aside0.mk (below_step (w := w) (by (repeat (first | (with_reducible exact Below.refl _ _) | (with_reducible assumption) | ((with_reducible apply Aside0.out); with_reducible assumption) | (with_reducible apply below_alloc) | (with_reducible apply below_drew1) | (with_reducible apply pw_below_drewN) | ((with_reducible refine below_set ?_ ?_); rotate_left; (first | omega | (simp; done) | (simp; omega)))))) hb); have hz1 := hb.size; obtain ⟨hcl1, hfr1, hlt1, _⟩ := bcell hb; (try simp only [World.size_alloc, World.size_setCell, World.size_drew] at hz1); (try simp only [World.size_alloc, World.size_setCell, World.size_drew] at hcl1 hfr1 hlt1); have hk1_0 : w.heap.size < w1.heap.size := (by omega); have HB1 := Aside0.mk (Below.refl w1.heap.size w1); clear hb)
    go_wp2
    go_ret
    exact ⟨ret_of (by simp [*]), by (repeat (first | (with_reducible exact Below.refl _ _) | (with_reducible assumption) | ((with_reducible apply Aside0.out); with_reducible assumption) | (with_reducible apply below_alloc) | (with_reducible apply below_drew1) | (with_reducible apply pw_below_drewN) | ((with_reducible refine below_set ?_ ?_); rotate_left; (first | omega | (simp; done) | (simp; omega)))))⟩
theorem spec_DeskOk (x : Cpu) (A : Option Addr) (l : List Int) (c : Nat) (B : Option Addr) (r : List Cyc) (d : Nat) (w : World) (hr : r.length ≤ 9223372036854775807) :
    Calls Try.prog 27 #[.agg #[.int .u8 x.A, .int .u8 x.X, .int .u8 x.Y, .int .u8 x.S, .int .u16 x.PC, .bool x.F.N, .bool x.F.V, .bool x.F.D, .bool x.F.I, .bool x.F.Z, .bool x.F.C, .slice A l.length c, .slice B r.length d]] w fun e w' => e = .returned (.bool (ramSize l.length && decide ((r.length : Int) ≤ 1200))) ∧ Below w.heap.size w w' := by
  obtain ⟨b, hb⟩ : ∃ b, ramSize l.length = b := ⟨_, rfl⟩
  cases b
  · have HB := Aside0.mk (Below.refl w.heap.size w); go_enter Try.func27, Try.ntmps27
    go_wp2_with fail
    refine (spec_RamOk _ _ _ _).mono ?_
    rintro _ w1 ⟨rfl, hb⟩
    (have HB := Aside0.mk (below_step (w := w) (by (repeat (first | (with_reducible exact Below.refl _ _) | (with_reducible assumption) | ((with_reducible apply Aside0.out); with_reducible assumption) | (with_reducible apply below_alloc) | (with_reducible apply below_drew1) | (with_reducible apply pw_below_drewN) | ((with_reducible refine below_set ?_ ?_); rotate_left; (first | omega | (simp; done) | (simp; omega)))))) hb); have hz1 := hb.size; obtain ⟨hcl1, hfr1, hlt1, _⟩ := bcell hb; (try simp only [World.size_alloc, World.size_setCell, World.size_drew] at hz1); (try simp only [World.size_alloc, World.size_setCell, World.size_drew] at hcl1 hfr1 hlt1); have hk1_0 : w.heap.size < w1.heap.size := (by omega); have HB1 := Aside0.mk (Below.refl w1.heap.size w1); clear hb)
    go_wp2
    go_ret
    exact ⟨ret_of (by simp [*]), by (repeat (first | (with_reducible exact Below.refl _ _) | (with_reducible assumption) | ((with_reducible apply Aside0.out); with_reducible assumption) | (with_reducible apply below_alloc) | (with_reducible apply below_drew1) | (with_reducible apply pw_below_drewN) | ((with_reducible refine below_set ?_ ?_); rotate_left; (first | omega | (simp; done) | (simp; omega)))))⟩
  · have HB := Aside0.mk (Below.refl w.heap.size w); go_enter Try.func27, Try.ntmps27
    go_wp2_with fail
    refine (spec_RamOk _ _ _ _).mono ?_
    rintro _ w1 ⟨rfl, hb⟩
    (have HB := Aside0.mk (below_step (w := w) (by (repeat (first | (with_reducible exact Below.refl _ _) | (with_reducible assumption) | ((with_reducible apply Aside0.out); with_reducible assumption) | (with_reducible apply below_alloc) | (with_reducible apply below_drew1) | (with_reducible apply pw_below_drewN) | ((with_reducible refine below_set ?_ ?_); rotate_left; (first | omega | (simp; done) | (simp; omega)))))) hb); have hz1 := hb.size; obtain ⟨hcl1, hfr1, hlt1, _⟩ := bcell hb; (try simp only [World.size_alloc, World.size_setCell, World.size_drew] at hz1); (try simp only [World.size_alloc, World.size_setCell, World.size_drew] at hcl1 hfr1 hlt1); have hk1_0 : w.heap.size < w1.heap.size := (by omega); have HB1 := Aside0.mk (Below.refl w1.heap.size w1); clear hb)
    go_wp2
    go_ret
    exact ⟨ret_of (by simp [*]), by (repeat (first | (with_reducible exact Below.refl _ _) | (with_reducible assumption) | ((with_reducible apply Aside0.out); with_reducible assumption) | (with_reducible apply below_alloc) | (with_reducible apply below_drew1) | (with_reducible apply pw_below_drewN) | ((with_reducible refine below_set ?_ ?_); rotate_left; (first | omega | (simp; done) | (simp; omega)))))⟩
set_option maxHeartbeats 800000 in
theorem laws_toDesk (x : Cpu) (A : Option Addr) (l : List Int) (c : Nat) (B : Option Addr) (r : List Cyc) (d : Nat) (w : World) (h : Bs w A l) (k : Cs w B r) (hl : l.length ≤ 1048576) (hr : r.length ≤ 1048576) :
    Calls Try.prog 28 #[.agg #[.int .u8 x.A, .int .u8 x.X, .int .u8 x.Y, .int .u8 x.S, .int .u16 x.PC, .bool x.F.N, .bool x.F.V, .bool x.F.D, .bool x.F.I, .bool x.F.Z, .bool x.F.C, .slice A l.length c, .slice B r.length d]] w fun e w' => ∃ A1 c1 B1 d1, e = .returned (.agg #[.int .u8 x.A, .int .u8 x.X, .int .u8 x.Y, .int .u8 x.S, .int .u16 x.PC, .bool x.F.N, .bool x.F.V, .bool x.F.D, .bool x.F.I, .bool x.F.Z, .bool x.F.C, .slice A1 l.length c1, .slice B1 r.length d1]) ∧ OwnB w' w.heap.size (.slice A1 l.length c1) l ∧ OwnC w' w.heap.size (.slice B1 r.length d1) r ∧ Below w.heap.size w w' := by
  have HB := Aside0.mk (Below.refl w.heap.size w); go_enter Try.func28, Try.ntmps28
  go_wp2_with fail
  refine (laws_toCpu x _).mono ?_
  rintro _ w1 ⟨rfl, hb⟩
  (have HB := Aside0.mk (below_step (w := w) (by (repeat (first | (with_reducible exact Below.refl _ _) | (with_reducible assumption) | ((with_reducible apply Aside0.out); with_reducible assumption) | (with_reducible apply below_alloc) | (with_reducible apply below_drew1) | (with_reducible apply pw_below_drewN) | ((with_reducible refine below_set ?_ ?_); rotate_left; (first | omega | (simp; done) | (simp; omega)))))) hb); have hz1 := hb.size; obtain ⟨hcl1, hfr1, hlt1, _⟩ := bcell hb; (try simp only [World.size_alloc, World.size_setCell, World.size_drew] at hz1); (try simp only [World.size_alloc, World.size_setCell, World.size_drew] at hcl1 hfr1 hlt1); have hk1_0 : w.heap.size < w1.heap.size := (by omega); have hk1_1 : w.heap.size + 1 < w1.heap.size := (by omega); have hk1_2 : w.heap.size + 1 + 1 < w1.heap.size := (by omega); have HB1 := Aside0.mk (Below.refl w1.heap.size w1); clear hb)
  go_wp2_with fail
  refine (laws_toRam _ _ _ _ (h.below (by (repeat (first | (with_reducible exact Below.refl _ _) | (with_reducible assumption) | ((with_reducible apply Aside0.out); with_reducible assumption) | (with_reducible apply below_alloc) | (with_reducible apply below_drew1) | (with_reducible apply pw_below_drewN) | ((with_reducible refine below_set ?_ ?_); rotate_left; (first | omega | (simp; done) | (simp; omega))))))) hl).mono ?_
  rintro _ w2 ⟨A2, c2, rfl, ho2, hb⟩
  (have HB := Aside0.mk (below_step (w := w) (by (repeat (first | (with_reducible exact Below.refl _ _) | (with_reducible assumption) | ((with_reducible apply Aside0.out); with_reducible assumption) | (with_reducible apply below_alloc) | (with_reducible apply below_drew1) | (with_reducible apply pw_below_drewN) | ((with_reducible refine below_set ?_ ?_); rotate_left; (first | omega | (simp; done) | (simp; omega)))))) hb); have hz2 := hb.size; obtain ⟨hcl2, hfr2, hlt2, _⟩ := bcell hb; (try simp only [World.size_alloc, World.size_setCell, World.size_drew] at hz2); (try simp only [World.size_alloc, World.size_setCell, World.size_drew] at hcl2 hfr2 hlt2); have hk2_0 : w.heap.size < w2.heap.size := (by omega); have hk2_1 : w.heap.size + 1 < w2.heap.size := (by omega); have hk2_2 : w.heap.size + 1 + 1 < w2.heap.size := (by omega); have HB2 := Aside0.mk (Below.refl w2.heap.size w2); clear hb)
  have HO2 := Aside0.mk ho2; clear ho2
  go_wp2_with fail
  refine (laws_toCycS _ _ _ _ (k.below (by (repeat (first | (with_reducible exact Below.refl _ _) | (with_reducible assumption) | ((with_reducible apply Aside0.out); with_reducible assumption) | (with_reducible apply below_alloc) | (with_reducible apply below_drew1) | (with_reducible apply pw_below_drewN) | ((with_reducible refine below_set ?_ ?_); rotate_left; (first | omega | (simp; done) | (simp; omega))))))).c hr).mono ?_
  rintro _ w3 ⟨B3, d3, rfl, ho3, hb⟩
  have HO2 := Aside0.mk ((HO2.out.set (by first | omega | (simp; done) | (simp; omega)) _).below hb)
  have HB := Aside0.mk (below_step (w := w) (by (repeat (first | (with_reducible exact Below.refl _ _) | (with_reducible assumption) | ((with_reducible apply Aside0.out); with_reducible assumption) | (with_reducible apply below_alloc) | (with_reducible apply below_drew1) | (with_reducible apply pw_below_drewN) | ((with_reducible refine below_set ?_ ?_); rotate_left; (first | omega | (simp; done) | (simp; omega)))))) hb); have hz3 := hb.size; obtain ⟨hcl3, hfr3, hlt3, _⟩ := bcell hb; (try simp only [World.size_alloc, World.size_setCell, World.size_drew] at hz3); (try simp only [World.size_alloc, World.size_setCell, World.size_drew] at hcl3 hfr3 hlt3); have hk3_0 : w.heap.size < w3.heap.size := (by omega); have hk3_1 : w.heap.size + 1 < w3.heap.size := (by omega); have hk3_2 : w.heap.size + 1 + 1 < w3.heap.size := (by omega); have HB3 := Aside0.mk (Below.refl w3.heap.size w3); clear hb
  have HO3 := Aside0.mk ho3
  clear ho3
  go_wp2_with fail
  (refine bodyPost_ret (v := .agg #[.int .u8 x.A, .int .u8 x.X, .int .u8 x.Y, .int .u8 x.S, .int .u16 x.PC, .bool x.F.N, .bool x.F.V, .bool x.F.D, .bool x.F.I, .bool x.F.Z, .bool x.F.C, .slice A2 l.length c2, .slice B3 r.length d3]) (by (simp only [results, Try.results28]; go_simp <;> (rfl))) rfl ?_)
  exact ⟨_, _, _, _, rfl, (by (apply OwnB.lower; (repeat (first | (with_reducible exact HO2.out) | (with_reducible apply OwnB.alloc) | (with_reducible apply OwnB.drew) | (with_reducible apply OwnB.drewN) | (with_reducible apply OwnB.set))); all_goals (first | omega | (simp; done) | (simp; omega)))), (by (apply OwnC.lower; (repeat (first | (with_reducible exact HO3.out) | (with_reducible apply OwnC.alloc) | (with_reducible apply OwnC.drew) | (with_reducible apply OwnC.drewN) | (with_reducible apply OwnC.set))); all_goals (first | omega | (simp; done) | (simp; omega)))), by (repeat (first | (with_reducible exact Below.refl _ _) | (with_reducible assumption) | ((with_reducible apply Aside0.out); with_reducible assumption) | (with_reducible apply below_alloc) | (with_reducible apply below_drew1) | (with_reducible apply pw_below_drewN) | ((with_reducible refine below_set ?_ ?_); rotate_left; (first | omega | (simp; done) | (simp; omega)))))⟩
set_option maxHeartbeats 400000 in
theorem laws_szDesk_no (x : Cpu) (A : Option Addr) (l : List Int) (c : Nat) (B : Option Addr) (r : List Cyc) (d : Nat) (n : Int) (w : World) (hl : l.length ≤ 9223372036854775807) (hr : r.length ≤ 9223372036854775807) (h0 : 0 ≤ n) (h1 : n ≤ 1048576) (hn : n < l.length + r.length) :
    Calls Try.prog 26 #[.agg #[.int .u8 x.A, .int .u8 x.X, .int .u8 x.Y, .int .u8 x.S, .int .u16 x.PC, .bool x.F.N, .bool x.F.V, .bool x.F.D, .bool x.F.I, .bool x.F.Z, .bool x.F.C, .slice A l.length c, .slice B r.length d], .int .i64 n] w fun e w' => e = .returned (.int .i64 (-1)) ∧ Below w.heap.size w w' := by
  by_cases h : n < (l.length : Int)
  · have hs := szF_big h
    have HB := Aside0.mk (Below.refl w.heap.size w); go_enter Try.func26, Try.ntmps26
    go_wp2_with fail
    refine (laws_szRam _ _ _ _ _ hl (by omega) (by omega)).mono ?_
    rintro _ w1 ⟨rfl, hb⟩
    (have HB := Aside0.mk (below_step (w := w) (by (repeat (first | (with_reducible exact Below.refl _ _) | (with_reducible assumption) | ((with_reducible apply Aside0.out); with_reducible assumption) | (with_reducible apply below_alloc) | (with_reducible apply below_drew1) | (with_reducible apply pw_below_drewN) | ((with_reducible refine below_set ?_ ?_); rotate_left; (first | omega | (simp; done) | (simp; omega)))))) hb); have hz1 := hb.size; obtain ⟨hcl1, hfr1, hlt1, _⟩ := bcell hb; (try simp only [World.size_alloc, World.size_setCell, World.size_drew] at hz1); (try simp only [World.size_alloc, World.size_setCell, World.size_drew] at hcl1 hfr1 hlt1); have hk1_0 : w.heap.size < w1.heap.size := (by omega); have HB1 := Aside0.mk (Below.refl w1.heap.size w1); clear hb)
    go_wp2
    go_ret
    exact ⟨rfl, by (repeat (first | (with_reducible exact Below.refl _ _) | (with_reducible assumption) | ((with_reducible apply Aside0.out); with_reducible assumption) | (with_reducible apply below_alloc) | (with_reducible apply below_drew1) | (with_reducible apply pw_below_drewN) | ((with_reducible refine below_set ?_ ?_); rotate_left; (first | omega | (simp; done) | (simp; omega)))))⟩
  · have hs := szF_ok (n := n) (m := l.length) (by omega)
    have hs2 := szF_big (n := n - l.length) (m := r.length) (by omega)
    have HB := Aside0.mk (Below.refl w.heap.size w); go_enter Try.func26, Try.ntmps26
    go_wp2_with fail
    refine (laws_szRam _ _ _ _ _ hl (by omega) (by omega)).mono ?_
    rintro _ w1 ⟨rfl, hb⟩
    (have HB := Aside0.mk (below_step (w := w) (by (repeat (first | (with_reducible exact Below.refl _ _) | (with_reducible assumption) | ((with_reducible apply Aside0.out); with_reducible assumption) | (with_reducible apply below_alloc) | (with_reducible apply below_drew1) | (with_reducible apply pw_below_drewN) | ((with_reducible refine below_set ?_ ?_); rotate_left; (first | omega | (simp; done) | (simp; omega)))))) hb); have hz1 := hb.size; obtain ⟨hcl1, hfr1, hlt1, _⟩ := bcell hb; (try simp only [World.size_alloc, World.size_setCell, World.size_drew] at hz1); (try simp only [World.size_alloc, World.size_setCell, World.size_drew] at hcl1 hfr1 hlt1); have hk1_0 : w.heap.size < w1.heap.size := (by omega); have HB1 := Aside0.mk (Below.refl w1.heap.size w1); clear hb)
    go_wp2_with fail
    refine (laws_szCycS _ _ r.length _ _ hr (by omega) (by omega)).mono ?_
    rintro _ _ ⟨rfl, rfl⟩
    go_wp2
    go_ret
    exact ⟨rfl, by (repeat (first | (with_reducible exact Below.refl _ _) | (with_reducible assumption) | ((with_reducible apply Aside0.out); with_reducible assumption) | (with_reducible apply below_alloc) | (with_reducible apply below_drew1) | (with_reducible apply pw_below_drewN) | ((with_reducible refine below_set ?_ ?_); rotate_left; (first | omega | (simp; done) | (simp; omega)))))⟩
set_option maxHeartbeats 400000 in
theorem laws_szDesk_ok (x : Cpu) (A : Option Addr) (l : List Int) (c : Nat) (B : Option Addr) (r : List Cyc) (d : Nat) (n : Int) (w : World) (hl : l.length ≤ 9223372036854775807) (hr : r.length ≤ 9223372036854775807) (h0 : 0 ≤ n) (h1 : n ≤ 1048576) (hn : l.length + r.length ≤ n) :
    Calls Try.prog 26 #[.agg #[.int .u8 x.A, .int .u8 x.X, .int .u8 x.Y, .int .u8 x.S, .int .u16 x.PC, .bool x.F.N, .bool x.F.V, .bool x.F.D, .bool x.F.I, .bool x.F.Z, .bool x.F.C, .slice A l.length c, .slice B r.length d], .int .i64 n] w fun e w' => e = .returned (.int .i64 (n - l.length - r.length)) ∧ Below w.heap.size w w' := by
  have hs := szF_ok (n := n) (m := l.length) (by omega)
  have hs2 := szF_ok (n := n - l.length) (m := r.length) (by omega)
  have HB := Aside0.mk (Below.refl w.heap.size w); go_enter Try.func26, Try.ntmps26
  go_wp2_with fail
  refine (laws_szRam _ _ _ _ _ hl (by omega) (by omega)).mono ?_
  rintro _ w1 ⟨rfl, hb⟩
  (have HB := Aside0.mk (below_step (w := w) (by (repeat (first | (with_reducible exact Below.refl _ _) | (with_reducible assumption) | ((with_reducible apply Aside0.out); with_reducible assumption) | (with_reducible apply below_alloc) | (with_reducible apply below_drew1) | (with_reducible apply pw_below_drewN) | ((with_reducible refine below_set ?_ ?_); rotate_left; (first | omega | (simp; done) | (simp; omega)))))) hb); have hz1 := hb.size; obtain ⟨hcl1, hfr1, hlt1, _⟩ := bcell hb; (try simp only [World.size_alloc, World.size_setCell, World.size_drew] at hz1); (try simp only [World.size_alloc, World.size_setCell, World.size_drew] at hcl1 hfr1 hlt1); have hk1_0 : w.heap.size < w1.heap.size := (by omega); have HB1 := Aside0.mk (Below.refl w1.heap.size w1); clear hb)
  go_wp2_with fail
  refine (laws_szCycS _ _ r.length _ _ hr (by omega) (by omega)).mono ?_
  rintro _ _ ⟨rfl, rfl⟩
  go_wp2
  go_ret
  exact ⟨rfl, by (repeat (first | (with_reducible exact Below.refl _ _) | (with_reducible assumption) | ((with_reducible apply Aside0.out); with_reducible assumption) | (with_reducible apply below_alloc) | (with_reducible apply below_drew1) | (with_reducible apply pw_below_drewN) | ((with_reducible refine below_set ?_ ?_); rotate_left; (first | omega | (simp; done) | (simp; omega)))))⟩
set_option maxHeartbeats 800000 in
theorem laws_eqDesk (x : Cpu) (A A' : Option Addr) (l : List Int) (c c' : Nat) (B B' : Option Addr) (r : List Cyc) (d d' : Nat) (w : World) (h : Bs w A l) (h' : Bs w A' l) (k : Cs w B r) (k' : Cs w B' r) (hl : l.length ≤ 1048576) (hr : r.length ≤ 1048576) :
    Calls Try.prog 23 #[.agg #[.int .u8 x.A, .int .u8 x.X, .int .u8 x.Y, .int .u8 x.S, .int .u16 x.PC, .bool x.F.N, .bool x.F.V, .bool x.F.D, .bool x.F.I, .bool x.F.Z, .bool x.F.C, .slice A l.length c, .slice B r.length d], .agg #[.int .u8 x.A, .int .u8 x.X, .int .u8 x.Y, .int .u8 x.S, .int .u16 x.PC, .bool x.F.N, .bool x.F.V, .bool x.F.D, .bool x.F.I, .bool x.F.Z, .bool x.F.C, .slice A' l.length c', .slice B' r.length d']] w fun e w' => e = .returned (.bool true) ∧ Below w.heap.size w w' := by
  have HB := Aside0.mk (Below.refl w.heap.size w); go_enter Try.func23, Try.ntmps23
  go_wp2_with fail
  refine (laws_eqCpu x _).mono ?_
  rintro _ w1 ⟨rfl, hb⟩
  (have HB := Aside0.mk (below_step (w := w) (by (repeat (first | (with_reducible exact Below.refl _ _) | (with_reducible assumption) | ((with_reducible apply Aside0.out); with_reducible assumption) | (with_reducible apply below_alloc) | (with_reducible apply below_drew1) | (with_reducible apply pw_below_drewN) | ((with_reducible refine below_set ?_ ?_); rotate_left; (first | omega | (simp; done) | (simp; omega)))))) hb); have hz1 := hb.size; obtain ⟨hcl1, hfr1, hlt1, _⟩ := bcell hb; (try simp only [World.size_alloc, World.size_setCell, World.size_drew] at hz1); (try simp only [World.size_alloc, World.size_setCell, World.size_drew] at hcl1 hfr1 hlt1); have hk1_0 : w.heap.size < w1.heap.size := (by omega); have hk1_1 : w.heap.size + 1 < w1.heap.size := (by omega); have HB1 := Aside0.mk (Below.refl w1.heap.size w1); clear hb)
  go_wp2_with fail
  refine (laws_eqRam _ _ _ _ _ _ (h.below (by (repeat (first | (with_reducible exact Below.refl _ _) | (with_reducible assumption) | ((with_reducible apply Aside0.out); with_reducible assumption) | (with_reducible apply below_alloc) | (with_reducible apply below_drew1) | (with_reducible apply pw_below_drewN) | ((with_reducible refine below_set ?_ ?_); rotate_left; (first | omega | (simp; done) | (simp; omega))))))) (h'.below (by (repeat (first | (with_reducible exact Below.refl _ _) | (with_reducible assumption) | ((with_reducible apply Aside0.out); with_reducible assumption) | (with_reducible apply below_alloc) | (with_reducible apply below_drew1) | (with_reducible apply pw_below_drewN) | ((with_reducible refine below_set ?_ ?_); rotate_left; (first | omega | (simp; done) | (simp; omega))))))) hl).mono ?_
  rintro _ w2 ⟨rfl, hb⟩
  (have HB := Aside0.mk (below_step (w := w) (by (repeat (first | (with_reducible exact Below.refl _ _) | (with_reducible assumption) | ((with_reducible apply Aside0.out); with_reducible assumption) | (with_reducible apply below_alloc) | (with_reducible apply below_drew1) | (with_reducible apply pw_below_drewN) | ((with_reducible refine below_set ?_ ?_); rotate_left; (first | omega | (simp; done) | (simp; omega)))))) hb); have HB1 := Aside0.mk (below_step (w := w1) (by (repeat (first | (with_reducible exact Below.refl _ _) | (with_reducible assumption) | ((with_reducible apply Aside0.out); with_reducible assumption) | (with_reducible apply below_alloc) | (with_reducible apply below_drew1) | (with_reducible apply pw_below_drewN) | ((with_reducible refine below_set ?_ ?_); rotate_left; (first | omega | (simp; done) | (simp; omega)))))) hb); have hz2 := hb.size; obtain ⟨hcl2, hfr2, hlt2, _⟩ := bcell hb; (try simp only [World.size_alloc, World.size_setCell, World.size_drew] at hz2); (try simp only [World.size_alloc, World.size_setCell, World.size_drew] at hcl2 hfr2 hlt2); have hk2_0 : w.heap.size < w2.heap.size := (by omega); have hk2_1 : w.heap.size + 1 < w2.heap.size := (by omega); have HB2 := Aside0.mk (Below.refl w2.heap.size w2); clear hb)
  go_wp2_with fail
  refine (laws_eqCycS _ _ _ _ _ _ (k.below (by (repeat (first | (with_reducible exact Below.refl _ _) | (with_reducible assumption) | ((with_reducible apply Aside0.out); with_reducible assumption) | (with_reducible apply below_alloc) | (with_reducible apply below_drew1) | (with_reducible apply pw_below_drewN) | ((with_reducible refine below_set ?_ ?_); rotate_left; (first | omega | (simp; done) | (simp; omega))))))).c (k'.below (by (repeat (first | (with_reducible exact Below.refl _ _) | (with_reducible assumption) | ((with_reducible apply Aside0.out); with_reducible assumption) | (with_reducible apply below_alloc) | (with_reducible apply below_drew1) | (with_reducible apply pw_below_drewN) | ((with_reducible refine below_set ?_ ?_); rotate_left; (first | omega | (simp; done) | (simp; omega))))))).c hr).mono ?_
  rintro _ w3 ⟨rfl, hb⟩
  (have HB := Aside0.mk (below_step (w := w) (by (repeat (first | (with_reducible exact Below.refl _ _) | (with_reducible assumption) | ((with_reducible apply Aside0.out); with_reducible assumption) | (with_reducible apply below_alloc) | (with_reducible apply below_drew1) | (with_reducible apply pw_below_drewN) | ((with_reducible refine below_set ?_ ?_); rotate_left; (first | omega | (simp; done) | (simp; omega)))))) hb); have HB1 := Aside0.mk (below_step (w := w1) (by (repeat (first | (with_reducible exact Below.refl _ _) | (with_reducible assumption) | ((with_reducible apply Aside0.out); with_reducible assumption) | (with_reducible apply below_alloc) | (with_reducible apply below_drew1) | (with_reducible apply pw_below_drewN) | ((with_reducible refine below_set ?_ ?_); rotate_left; (first | omega | (simp; done) | (simp; omega)))))) hb); have HB2 := Aside0.mk (below_step (w := w2) (by (repeat (first | (with_reducible exact Below.refl _ _) | (with_reducible assumption) | ((with_reducible apply Aside0.out); with_reducible assumption) | (with_reducible apply below_alloc) | (with_reducible apply below_drew1) | (with_reducible apply pw_below_drewN) | ((with_reducible refine below_set ?_ ?_); rotate_left; (first | omega | (simp; done) | (simp; omega)))))) hb); have hz3 := hb.size; obtain ⟨hcl3, hfr3, hlt3, _⟩ := bcell hb; (try simp only [World.size_alloc, World.size_setCell, World.size_drew] at hz3); (try simp only [World.size_alloc, World.size_setCell, World.size_drew] at hcl3 hfr3 hlt3); have hk3_0 : w.heap.size < w3.heap.size := (by omega); have hk3_1 : w.heap.size + 1 < w3.heap.size := (by omega); have HB3 := Aside0.mk (Below.refl w3.heap.size w3); clear hb)
  go_wp2
  go_ret
  exact ⟨rfl, by (repeat (first | (with_reducible exact Below.refl _ _) | (with_reducible assumption) | ((with_reducible apply Aside0.out); with_reducible assumption) | (with_reducible apply below_alloc) | (with_reducible apply below_drew1) | (with_reducible apply pw_below_drewN) | ((with_reducible refine below_set ?_ ?_); rotate_left; (first | omega | (simp; done) | (simp; omega)))))⟩
end Go.Proofs.Ytbkdalbmbegpdaa
