/- Memories cloned and filled by the program and the reference. -/
import Derived.Test.YtgdfehacijafhaaByt
import Derived.Test.YtgdfehacijafhaaRam
import Derived.Lib.LazyBuf
import Derived.Deep.DeepCutAuto
import Derived.Deep.CutBlock
set_option linter.unusedVariables false
set_option linter.unusedSimpArgs false
namespace Go.Proofs.Ytgdfehacijafhaa
open Go.RowKit Go.Proofs.YtgdfehacijafhaaW.PrintWords
theorem bs_nil {w : World} {l : List Int} (h : Bs w none l) : l = [] := by
  have := h.c.2.2
  cases l with
  | nil => rfl
  | cons x xs => obtain ⟨ad, e, _⟩ := this (by simp); cases e
set_option maxHeartbeats 400000 in
theorem impl_Clone (A : Option Addr) (c : Nat) (l : List Int) (w : World) (h : Bs w A l) (hl : l.length ≤ 1048576) :
    Calls Try.prog 81 #[.slice A l.length c] w fun e w' => ∃ A1 c1, e = .returned (.slice A1 l.length c1) ∧ OwnB w' w.heap.size (.slice A1 l.length c1) l ∧ Below w.heap.size w w' := by
  have he := Lib.run_eql_slice_nil (P := Try.prog) w 22 5 A l.length c 0 0 Try.underlying22
  cases A with
  | none =>
    obtain rfl := bs_nil h
    simp only [List.length_nil] at he
    have HB := Aside0.mk (Below.refl w.heap.size w); go_enter Try.func81, Try.ntmps81
    go_wp2
    go_ret
    exact ⟨none, 0, rfl, Kd.R_nil _ _ _ _ _, by (repeat (first | (with_reducible exact Below.refl _ _) | (with_reducible assumption) | ((with_reducible apply Aside0.out); with_reducible assumption) | (with_reducible apply below_alloc) | (with_reducible apply below_drew1) | (with_reducible apply pw_below_drewN) | ((with_reducible refine below_set ?_ ?_); rotate_left; (first | omega | (simp; done) | (simp; omega)))))⟩
  | some ad =>
    have HB := Aside0.mk (Below.refl w.heap.size w); go_enter Try.func81, Try.ntmps81
    go_wp2_with (first | ((with_reducible refine gate_dst (N := 5) rfl ?_); refine Kd.R_lit (Kd.int .u8) w.heap.size 5 ?hg (N := 5) ?hd (xs := ([] : List Int)) (inner := []) (ok := fun _ => True) (okp := fun _ => True) ?hr ?hp (fun _ hk => hk) trivial (Below.refl _ _) (by simp) (by simp) ?_; (case hd => rfl); (case hg => rfl); (case hr => first | (go_simp; done) | (go_simp; rfl)); (case hp => exact (Reps.none _ _)); intro v1 w1 ho hb hg1 hn1) | (at_builtin; refine Kd.R_append_row (Value.int .u8) (0 : Int) (h1 := fun _ => rfl) w.heap.size rfl _ _ 22 5 (.int .u8 0) 1 rfl Try.underlying22 infoU8 rfl (by decide) _ [] l _ _ _ (fun _ => True) rfl rfl (fun _ _ => trivial) ?a1 ?a2 (Below.refl _ _) ?a3 ?a4 ?_; (case a1 => exact ho); (case a2 => exact (Kd.C_below h.c hb)); (case a3 => exact hb.size); (case a4 => simp; omega); intro v2 w2 ho2 hb2 hg2 hat2))
    go_ret
    obtain ⟨A1, c1, e, _, _⟩ := Kd.R_reads ho2
    simp only [List.nil_append] at e ho2
    subst e
    exact ⟨A1, c1, rfl, ho2, hb.trans hb2⟩
theorem impl_cloned (A : Option Addr) (c : Nat) (l : List Int) (w : World) (h : Bs w A l) (hl : l.length ≤ 1048576) :
    Calls Try.prog 47 #[.agg #[.slice A l.length c]] w fun e w' => ∃ A1 c1, e = .returned (.agg #[.slice A1 l.length c1]) ∧ OwnB w' w.heap.size (.slice A1 l.length c1) l ∧ Below w.heap.size w w' := by
  have HB := Aside0.mk (Below.refl w.heap.size w); go_enter Try.func47, Try.ntmps47
  go_wp2_with fail
  refine (impl_Clone _ _ _ _ (h.below (by (repeat (first | (with_reducible exact Below.refl _ _) | (with_reducible assumption) | ((with_reducible apply Aside0.out); with_reducible assumption) | (with_reducible apply below_alloc) | (with_reducible apply below_drew1) | (with_reducible apply pw_below_drewN) | ((with_reducible refine below_set ?_ ?_); rotate_left; (first | omega | (simp; done) | (simp; omega))))))) hl).mono ?_
  rintro _ w1 ⟨A1, c1, rfl, HO, hb⟩
  (have HB := Aside0.mk (below_step (w := w) (by (repeat (first | (with_reducible exact Below.refl _ _) | (with_reducible assumption) | ((with_reducible apply Aside0.out); with_reducible assumption) | (with_reducible apply below_alloc) | (with_reducible apply below_drew1) | (with_reducible apply pw_below_drewN) | ((with_reducible refine below_set ?_ ?_); rotate_left; (first | omega | (simp; done) | (simp; omega)))))) hb); have hz1 := hb.size; obtain ⟨hcl1, hfr1, hlt1, _⟩ := bcell hb; (try simp only [World.size_alloc, World.size_setCell, World.size_drew] at hz1); (try simp only [World.size_alloc, World.size_setCell, World.size_drew] at hcl1 hfr1 hlt1); have hk1_0 : w.heap.size < w1.heap.size := (by omega); have hk1_1 : w.heap.size + 1 < w1.heap.size := (by omega); have HB1 := Aside0.mk (Below.refl w1.heap.size w1); clear hb)
  have HO := Aside0.mk HO
  go_wp2_with fail
  (refine bodyPost_ret (v := .agg #[.slice A1 l.length c1]) (by (simp only [results, Try.results47]; go_simp <;> (rfl))) rfl ?_)
  exact ⟨_, _, rfl, (by (apply OwnB.lower; (repeat (first | (with_reducible exact HO.out) | (with_reducible apply OwnB.alloc) | (with_reducible apply OwnB.drew) | (with_reducible apply OwnB.drewN) | (with_reducible apply OwnB.set))); all_goals (first | omega | (simp; done) | (simp; omega)))), by (repeat (first | (with_reducible exact Below.refl _ _) | (with_reducible assumption) | ((with_reducible apply Aside0.out); with_reducible assumption) | (with_reducible apply below_alloc) | (with_reducible apply below_drew1) | (with_reducible apply pw_below_drewN) | ((with_reducible refine below_set ?_ ?_); rotate_left; (first | omega | (simp; done) | (simp; omega)))))⟩
set_option maxHeartbeats 400000 in
theorem impl_Fill (A : Option Addr) (c : Nat) (l : List Int) (a : Int) (B : Option Addr) (d : Nat) (m : List Int) (w : World) (h : Bs w A l) (h2 : Bs w B m) (h0 : 0 ≤ a) (h1 : a < 65536) :
    Calls Try.prog 13 #[.agg #[.slice A l.length c], .int .u16 a, .slice B m.length d] w fun e w' => ∃ A1 c1, e = .returned (.agg #[.slice A1 (fill l a m).length c1]) ∧ OwnB w' w.heap.size (.slice A1 (fill l a m).length c1) (fill l a m) ∧ Below w.heap.size w w' := by
  have hm := h2.max
  obtain ⟨b, hb⟩ : ∃ b, ramSize l.length = b := ⟨_, rfl⟩
  cases b
  · have e : fill l a m = [] := by simp [fill, hb]
    rw [e]
    have HB := Aside0.mk (Below.refl w.heap.size w); go_enter Try.func13, Try.ntmps13
    go_wp2_with fail
    refine (impl_RamOk _ _ _ _).mono ?_
    rintro _ w1 ⟨rfl, hb⟩
    (have HB := Aside0.mk (below_step (w := w) (by (repeat (first | (with_reducible exact Below.refl _ _) | (with_reducible assumption) | ((with_reducible apply Aside0.out); with_reducible assumption) | (with_reducible apply below_alloc) | (with_reducible apply below_drew1) | (with_reducible apply pw_below_drewN) | ((with_reducible refine below_set ?_ ?_); rotate_left; (first | omega | (simp; done) | (simp; omega)))))) hb); have hz1 := hb.size; obtain ⟨hcl1, hfr1, hlt1, _⟩ := bcell hb; (try simp only [World.size_alloc, World.size_setCell, World.size_drew] at hz1); (try simp only [World.size_alloc, World.size_setCell, World.size_drew] at hcl1 hfr1 hlt1); have hk1_0 : w.heap.size < w1.heap.size := (by omega); have hk1_1 : w.heap.size + 1 < w1.heap.size := (by omega); have HB1 := Aside0.mk (Below.refl w1.heap.size w1); clear hb)
    go_wp2_with fail
    (refine bodyPost_ret (v := .agg #[.slice none 0 0]) (by (simp only [results, Try.results13]; go_simp <;> (rfl))) rfl ?_)
    exact ⟨none, 0, rfl, Kd.R_nil _ _ _ _ _, by (repeat (first | (with_reducible exact Below.refl _ _) | (with_reducible assumption) | ((with_reducible apply Aside0.out); with_reducible assumption) | (with_reducible apply below_alloc) | (with_reducible apply below_drew1) | (with_reducible apply pw_below_drewN) | ((with_reducible refine below_set ?_ ?_); rotate_left; (first | omega | (simp; done) | (simp; omega)))))⟩
  by_cases hm2 : (1024 : Int) < m.length
  · have e : fill l a m = [] := by simp [fill]; omega
    rw [e]
    have HB := Aside0.mk (Below.refl w.heap.size w); go_enter Try.func13, Try.ntmps13
    go_wp2_with fail
    refine (impl_RamOk _ _ _ _).mono ?_
    rintro _ w1 ⟨rfl, hb⟩
    (have HB := Aside0.mk (below_step (w := w) (by (repeat (first | (with_reducible exact Below.refl _ _) | (with_reducible assumption) | ((with_reducible apply Aside0.out); with_reducible assumption) | (with_reducible apply below_alloc) | (with_reducible apply below_drew1) | (with_reducible apply pw_below_drewN) | ((with_reducible refine below_set ?_ ?_); rotate_left; (first | omega | (simp; done) | (simp; omega)))))) hb); have hz1 := hb.size; obtain ⟨hcl1, hfr1, hlt1, _⟩ := bcell hb; (try simp only [World.size_alloc, World.size_setCell, World.size_drew] at hz1); (try simp only [World.size_alloc, World.size_setCell, World.size_drew] at hcl1 hfr1 hlt1); have hk1_0 : w.heap.size < w1.heap.size := (by omega); have hk1_1 : w.heap.size + 1 < w1.heap.size := (by omega); have HB1 := Aside0.mk (Below.refl w1.heap.size w1); clear hb)
    go_wp2_with fail
    (refine bodyPost_ret (v := .agg #[.slice none 0 0]) (by (simp only [results, Try.results13]; go_simp <;> (rfl))) rfl ?_)
    exact ⟨none, 0, rfl, Kd.R_nil _ _ _ _ _, by (repeat (first | (with_reducible exact Below.refl _ _) | (with_reducible assumption) | ((with_reducible apply Aside0.out); with_reducible assumption) | (with_reducible apply below_alloc) | (with_reducible apply below_drew1) | (with_reducible apply pw_below_drewN) | ((with_reducible refine below_set ?_ ?_); rotate_left; (first | omega | (simp; done) | (simp; omega)))))⟩
  · have hs := ramSize_le hb
    have e : fill l a m = fillN a m l m.length := by simp [fill, hb]; omega
    rw [e, fillN_len]
    have HB := Aside0.mk (Below.refl w.heap.size w); go_enter Try.func13, Try.ntmps13
    go_wp2_with fail
    refine (impl_RamOk _ _ _ _).mono ?_
    rintro _ w1 ⟨rfl, hb⟩
    (have HB := Aside0.mk (below_step (w := w) (by (repeat (first | (with_reducible exact Below.refl _ _) | (with_reducible assumption) | ((with_reducible apply Aside0.out); with_reducible assumption) | (with_reducible apply below_alloc) | (with_reducible apply below_drew1) | (with_reducible apply pw_below_drewN) | ((with_reducible refine below_set ?_ ?_); rotate_left; (first | omega | (simp; done) | (simp; omega)))))) hb); have hz1 := hb.size; obtain ⟨hcl1, hfr1, hlt1, _⟩ := bcell hb; (try simp only [World.size_alloc, World.size_setCell, World.size_drew] at hz1); (try simp only [World.size_alloc, World.size_setCell, World.size_drew] at hcl1 hfr1 hlt1); have hk1_0 : w.heap.size < w1.heap.size := (by omega); have hk1_1 : w.heap.size + 1 < w1.heap.size := (by omega); have HB1 := Aside0.mk (Below.refl w1.heap.size w1); clear hb)
    go_wp2_with fail
    refine (impl_cloned _ _ _ _ (h.below (by (repeat (first | (with_reducible exact Below.refl _ _) | (with_reducible assumption) | ((with_reducible apply Aside0.out); with_reducible assumption) | (with_reducible apply below_alloc) | (with_reducible apply below_drew1) | (with_reducible apply pw_below_drewN) | ((with_reducible refine below_set ?_ ?_); rotate_left; (first | omega | (simp; done) | (simp; omega))))))) (by omega)).mono ?_
    rintro _ w2 ⟨A1, c1, rfl, HO, hb⟩
    (have HB := Aside0.mk (below_step (w := w) (by (repeat (first | (with_reducible exact Below.refl _ _) | (with_reducible assumption) | ((with_reducible apply Aside0.out); with_reducible assumption) | (with_reducible apply below_alloc) | (with_reducible apply below_drew1) | (with_reducible apply pw_below_drewN) | ((with_reducible refine below_set ?_ ?_); rotate_left; (first | omega | (simp; done) | (simp; omega)))))) hb); have HB1 := Aside0.mk (below_step (w := w1) (by (repeat (first | (with_reducible exact Below.refl _ _) | (with_reducible assumption) | ((with_reducible apply Aside0.out); with_reducible assumption) | (with_reducible apply below_alloc) | (with_reducible apply below_drew1) | (with_reducible apply pw_below_drewN) | ((with_reducible refine below_set ?_ ?_); rotate_left; (first | omega | (simp; done) | (simp; omega)))))) hb); have hz2 := hb.size; obtain ⟨hcl2, hfr2, hlt2, _⟩ := bcell hb; (try simp only [World.size_alloc, World.size_setCell, World.size_drew] at hz2); (try simp only [World.size_alloc, World.size_setCell, World.size_drew] at hcl2 hfr2 hlt2); have hk2_0 : w.heap.size < w2.heap.size := (by omega); have hk2_1 : w.heap.size + 1 < w2.heap.size := (by omega); have HB2 := Aside0.mk (Below.refl w2.heap.size w2); clear hb)
    have HO2 := Aside0.mk HO; clear HO
    have HO := HO2
    go_wp2_with fail
    go_loopw [23] (fun v wr => ∃ k : Nat, k ≤ m.length ∧ v = .int .i64 k ∧ Aside0 (OwnB wr w1.heap.size (.slice A1 l.length c1) (fillN a m l k)) ∧ Aside0 (Below w.heap.size w wr) ∧ Aside0 (w2.heap.size < wr.heap.size) ∧ wr.cell? ⟨w2.heap.size, 0, none⟩ = some (.slice A1 l.length c1) ∧ wr.cell? ⟨w.heap.size + 1, 0, none⟩ = some (.slice none 0 0) ∧ wr.frozen? ⟨w.heap.size + 1, 0, none⟩ = false) (fun v _ => m.length - (intOf v).toNat)
    case atStart => exact ⟨0, Nat.zero_le _, rfl, ⟨HO.out.alloc _⟩, ⟨by (repeat (first | (with_reducible exact Below.refl _ _) | (with_reducible assumption) | ((with_reducible apply Aside0.out); with_reducible assumption) | (with_reducible apply below_alloc) | (with_reducible apply below_drew1) | (with_reducible apply pw_below_drewN) | ((with_reducible refine below_set ?_ ?_); rotate_left; (first | omega | (simp; done) | (simp; omega)))))⟩, ⟨by simp⟩, by go_simp, by go_simp, by go_simp⟩
    case round =>
      obtain ⟨k, hk, rfl, HO, HB, HZ, r1, r2, r3⟩ := hrel
      by_cases hlt : k < m.length
      · obtain ⟨ad, rfl, hx⟩ := h2.at k (by omega) (by omega)
        have hx1 := (HB.out.cell (World.block_lt_of_cell? w _ hx)).trans hx
        rw [Int.toNat_natCast] at hx1
        have hl3 : (fillN a m l k).length = l.length := fillN_len _ _ _ _
        obtain ⟨g, cap, eo, gb, gl, cl, HC⟩ := Kd.R_form HO.out (by omega)
        rw [hl3] at eo
        injection eo with ea en ec
        subst ea ec
        have q0 : 0 ≤ (a + k) % 65536 % l.length := Int.emod_nonneg _ (by omega)
        have q1 : (a + k) % 65536 % l.length < l.length := Int.emod_lt_of_pos _ (by omega)
        obtain ⟨hy, hf⟩ := Kd.R_celln 0 HO.out ((a + k) % 65536 % l.length) q0 q1
        have hz := HZ.out
        have hzb := HB.out.size
        clear HC en
        have hw1 : w.heap.size + 1 < wr.heap.size := by omega
        have hg2 : g < w2.heap.size := Kd.R_lt HO2.out g (by simp [Value.ownBlock])
        have hg3 : ¬ g = w2.heap.size := by omega
        have hg4 : ¬ w2.heap.size = g := by omega
        have hg5 : ¬ w.heap.size + 1 = g := by omega
        have hg6 : ¬ g = w.heap.size + 1 := by omega
        have hu1 : IntKind.u16.wrap (k : Int) = k := by rw [IntKind.wrap_u16]; omega
        have hu2 := IntKind.wrap_u16 (a + k)
        go_upto_region 7 with (fail)
        go_region_held3 (fun w' => Below w.heap.size w w' ∧ w'.cell? ⟨w2.heap.size, 0, none⟩ = some (.slice (some ⟨g, 0, none⟩) l.length c1)) (first | (go_keep; done) | (go_split_ands; (repeat' apply And.intro) <;> (first | (with_reducible assumption) | (go_simp; done) | (refine cell_keep ?_ (by assumption); (repeat (first | (with_reducible exact Below.refl _ _) | (with_reducible assumption) | ((with_reducible apply Aside0.out); with_reducible assumption) | (with_reducible apply below_alloc) | (with_reducible apply below_drew1) | (with_reducible apply pw_below_drewN) | ((with_reducible refine below_set ?_ ?_); rotate_left; (first | omega | (simp; done) | (simp; omega))))); done) | (repeat (first | (with_reducible exact Below.refl _ _) | (with_reducible assumption) | ((with_reducible apply Aside0.out); with_reducible assumption) | (with_reducible apply below_alloc) | (with_reducible apply below_drew1) | (with_reducible apply pw_below_drewN) | ((with_reducible refine below_set ?_ ?_); rotate_left; (first | omega | (simp; done) | (simp; omega)))))))) (first | (go_at_call 43; ((with_reducible refine (impl_at _ _ _ _ _ (by omega) (by omega) (by omega) (by omega)).mono ?_); rintro _ w3 ⟨rfl, hb⟩; have HO3 := Aside0.mk (HO.out.drew.below hb); have HX := Aside0.mk (bcell hb); have HB := Aside0.mk (below_step (w := w) (by (repeat (first | (with_reducible exact Below.refl _ _) | (with_reducible assumption) | ((with_reducible apply Aside0.out); with_reducible assumption) | (with_reducible apply below_alloc) | (with_reducible apply below_drew1) | (with_reducible apply pw_below_drewN) | ((with_reducible refine below_set ?_ ?_); rotate_left; (first | omega | (simp; done) | (simp; omega)))))) hb); have hz3 := hb.size; obtain ⟨hcl3, hfr3, hlt3, _⟩ := bcell hb; (try simp only [World.size_alloc, World.size_setCell, World.size_drew] at hz3); (try simp only [World.size_alloc, World.size_setCell, World.size_drew] at hcl3 hfr3 hlt3); have HB3 := Aside0.mk (Below.refl w3.heap.size w3); clear hb)))
        go_wp2
        exact ⟨⟨k + 1, by omega, by go_num, ⟨(Kd.R_putg HO3.out ((a + k) % 65536 % l.length) (rd m k)).1⟩, ⟨by (repeat (first | (with_reducible exact Below.refl _ _) | (with_reducible assumption) | ((with_reducible apply Aside0.out); with_reducible assumption) | (with_reducible apply below_alloc) | (with_reducible apply below_drew1) | (with_reducible apply pw_below_drewN) | ((with_reducible refine below_set ?_ ?_); rotate_left; (first | omega | (simp; done) | (simp; omega)))))⟩, ⟨by simp; omega⟩, by go_simp, by go_simp, by go_simp⟩, by simp [intOf]; omega⟩
      · have ek : k = m.length := by omega
        subst ek
        have hz := HZ.out
        have hzb := HB.out.size
        have hw1 : w.heap.size + 1 < wr.heap.size := by omega
        go_wp2
        (refine bodyPost_ret (v := .agg #[.slice A1 l.length c1]) (by (simp only [results, Try.results13]; go_simp <;> (rfl))) rfl ?_)
        exact ⟨_, _, rfl, (by (apply OwnB.lower; (repeat (first | (with_reducible exact HO.out) | (with_reducible apply OwnB.alloc) | (with_reducible apply OwnB.drew) | (with_reducible apply OwnB.drewN) | (with_reducible apply OwnB.set))); all_goals (first | omega | (simp; done) | (simp; omega)))), by (repeat (first | (with_reducible exact Below.refl _ _) | (with_reducible assumption) | ((with_reducible apply Aside0.out); with_reducible assumption) | (with_reducible apply below_alloc) | (with_reducible apply below_drew1) | (with_reducible apply pw_below_drewN) | ((with_reducible refine below_set ?_ ?_); rotate_left; (first | omega | (simp; done) | (simp; omega)))))⟩
set_option maxHeartbeats 400000 in
theorem spec_Fill (A : Option Addr) (c : Nat) (l : List Int) (a : Int) (B : Option Addr) (d : Nat) (m : List Int) (w : World) (h : Bs w A l) (h2 : Bs w B m) (h0 : 0 ≤ a) (h1 : a < 65536) :
    Calls Try.prog 15 #[.agg #[.slice A l.length c], .int .u16 a, .slice B m.length d] w fun e w' => ∃ A1 c1, e = .returned (.agg #[.slice A1 (fill l a m).length c1]) ∧ OwnB w' w.heap.size (.slice A1 (fill l a m).length c1) (fill l a m) ∧ Below w.heap.size w w' := by
  have hm := h2.max
  obtain ⟨b, hb⟩ : ∃ b, ramSize l.length = b := ⟨_, rfl⟩
  cases b
  · have e : fill l a m = [] := by simp [fill, hb]
    rw [e]
    have HB := Aside0.mk (Below.refl w.heap.size w); go_enter Try.func15, Try.ntmps15
    go_wp2_with fail
    refine (spec_RamOk _ _ _ _).mono ?_
    rintro _ w1 ⟨rfl, hb⟩
    (have HB := Aside0.mk (below_step (w := w) (by (repeat (first | (with_reducible exact Below.refl _ _) | (with_reducible assumption) | ((with_reducible apply Aside0.out); with_reducible assumption) | (with_reducible apply below_alloc) | (with_reducible apply below_drew1) | (with_reducible apply pw_below_drewN) | ((with_reducible refine below_set ?_ ?_); rotate_left; (first | omega | (simp; done) | (simp; omega)))))) hb); have hz1 := hb.size; obtain ⟨hcl1, hfr1, hlt1, _⟩ := bcell hb; (try simp only [World.size_alloc, World.size_setCell, World.size_drew] at hz1); (try simp only [World.size_alloc, World.size_setCell, World.size_drew] at hcl1 hfr1 hlt1); have hk1_0 : w.heap.size < w1.heap.size := (by omega); have hk1_1 : w.heap.size + 1 < w1.heap.size := (by omega); have HB1 := Aside0.mk (Below.refl w1.heap.size w1); clear hb)
    go_wp2_with fail
    (refine bodyPost_ret (v := .agg #[.slice none 0 0]) (by (simp only [results, Try.results15]; go_simp <;> (rfl))) rfl ?_)
    exact ⟨none, 0, rfl, Kd.R_nil _ _ _ _ _, by (repeat (first | (with_reducible exact Below.refl _ _) | (with_reducible assumption) | ((with_reducible apply Aside0.out); with_reducible assumption) | (with_reducible apply below_alloc) | (with_reducible apply below_drew1) | (with_reducible apply pw_below_drewN) | ((with_reducible refine below_set ?_ ?_); rotate_left; (first | omega | (simp; done) | (simp; omega)))))⟩
  by_cases hm2 : (1024 : Int) < m.length
  · have e : fill l a m = [] := by simp [fill]; omega
    rw [e]
    have HB := Aside0.mk (Below.refl w.heap.size w); go_enter Try.func15, Try.ntmps15
    go_wp2_with fail
    refine (spec_RamOk _ _ _ _).mono ?_
    rintro _ w1 ⟨rfl, hb⟩
    (have HB := Aside0.mk (below_step (w := w) (by (repeat (first | (with_reducible exact Below.refl _ _) | (with_reducible assumption) | ((with_reducible apply Aside0.out); with_reducible assumption) | (with_reducible apply below_alloc) | (with_reducible apply below_drew1) | (with_reducible apply pw_below_drewN) | ((with_reducible refine below_set ?_ ?_); rotate_left; (first | omega | (simp; done) | (simp; omega)))))) hb); have hz1 := hb.size; obtain ⟨hcl1, hfr1, hlt1, _⟩ := bcell hb; (try simp only [World.size_alloc, World.size_setCell, World.size_drew] at hz1); (try simp only [World.size_alloc, World.size_setCell, World.size_drew] at hcl1 hfr1 hlt1); have hk1_0 : w.heap.size < w1.heap.size := (by omega); have hk1_1 : w.heap.size + 1 < w1.heap.size := (by omega); have HB1 := Aside0.mk (Below.refl w1.heap.size w1); clear hb)
    go_wp2_with fail
    (refine bodyPost_ret (v := .agg #[.slice none 0 0]) (by (simp only [results, Try.results15]; go_simp <;> (rfl))) rfl ?_)
    exact ⟨none, 0, rfl, Kd.R_nil _ _ _ _ _, by (repeat (first | (with_reducible exact Below.refl _ _) | (with_reducible assumption) | ((with_reducible apply Aside0.out); with_reducible assumption) | (with_reducible apply below_alloc) | (with_reducible apply below_drew1) | (with_reducible apply pw_below_drewN) | ((with_reducible refine below_set ?_ ?_); rotate_left; (first | omega | (simp; done) | (simp; omega)))))⟩
  · have hs := ramSize_le hb
    have hn : ¬ l = [] := fun h => by subst h; simp at hs
    have e : fill l a m = fillN a m l m.length := by simp [fill, hb]; omega
    rw [e, fillN_len]
    have HB := Aside0.mk (Below.refl w.heap.size w); go_enter Try.func15, Try.ntmps15
    go_wp2_with fail
    refine (spec_RamOk _ _ _ _).mono ?_
    rintro _ w1 ⟨rfl, hb⟩
    (have HB := Aside0.mk (below_step (w := w) (by (repeat (first | (with_reducible exact Below.refl _ _) | (with_reducible assumption) | ((with_reducible apply Aside0.out); with_reducible assumption) | (with_reducible apply below_alloc) | (with_reducible apply below_drew1) | (with_reducible apply pw_below_drewN) | ((with_reducible refine below_set ?_ ?_); rotate_left; (first | omega | (simp; done) | (simp; omega)))))) hb); have hz1 := hb.size; obtain ⟨hcl1, hfr1, hlt1, _⟩ := bcell hb; (try simp only [World.size_alloc, World.size_setCell, World.size_drew] at hz1); (try simp only [World.size_alloc, World.size_setCell, World.size_drew] at hcl1 hfr1 hlt1); have hk1_0 : w.heap.size < w1.heap.size := (by omega); have hk1_1 : w.heap.size + 1 < w1.heap.size := (by omega); have HB1 := Aside0.mk (Below.refl w1.heap.size w1); clear hb)
    go_wp2_with (first | ((with_reducible refine gate_dst (N := 18) rfl ?_); refine Kd.R_lit (Kd.int .u8) w1.heap.size 5 ?hg (N := 18) ?hd (xs := ([] : List Int)) (inner := []) (ok := fun _ => True) (okp := fun _ => True) ?hr ?hp (fun _ hk => hk) trivial (Below.refl _ _) (Nat.le_refl _) (by simp) ?_; (case hd => rfl); (case hg => rfl); (case hr => first | (go_simp; done) | (go_simp; rfl)); (case hp => exact (Reps.none _ _)); intro v1 w2 ho hb hg1 hn1; have HA := Aside0.mk ho; clear ho hg1 hn1; have HB := Aside0.mk (below_step (w := w) (by (repeat (first | (with_reducible exact Below.refl _ _) | (with_reducible assumption) | ((with_reducible apply Aside0.out); with_reducible assumption) | (with_reducible apply below_alloc) | (with_reducible apply below_drew1) | (with_reducible apply pw_below_drewN) | ((with_reducible refine below_set ?_ ?_); rotate_left; (first | omega | (simp; done) | (simp; omega)))))) hb); have hz2 := hb.size; obtain ⟨hcl2, hfr2, hlt2, _⟩ := bcell hb; (try simp only [World.size_alloc, World.size_setCell, World.size_drew] at hz2); (try simp only [World.size_alloc, World.size_setCell, World.size_drew] at hcl2 hfr2 hlt2); have hk2_0 : w.heap.size < w2.heap.size := (by omega); have hk2_1 : w.heap.size + 1 < w2.heap.size := (by omega); have HB2 := Aside0.mk (Below.refl w2.heap.size w2); clear hb) | (at_builtin; refine Kd.R_append_row (Value.int .u8) (0 : Int) (h1 := fun _ => rfl) w1.heap.size rfl _ _ 22 5 (.int .u8 0) 1 rfl Try.underlying22 infoU8 rfl (by decide) _ [] l _ _ _ (fun _ => True) rfl rfl (fun _ _ => trivial) ?a1 ?a2 (Below.refl _ _) ?a3 ?a4 ?_; (case a1 => exact HA.out); (case a2 => exact (Kd.C_below h.c HB.out)); (case a3 => omega); (case a4 => simp; omega); intro v2 w3 ho2 hb2 hg2 hat2; have HB := Aside0.mk (HB.out.trans (hb2.mono (B' := w.heap.size) (by omega))); have hcl3 := fun (p : Addr) (h : p.block < w1.heap.size) => hb2.cell h; have hfr3 := fun (p : Addr) (h : p.block < w1.heap.size) => hb2.frozen h; have hz3 := hb2.size; have hk3 : w.heap.size < w3.heap.size := (by omega); have hk4 : w.heap.size + 1 < w3.heap.size := (by omega); have HO := Aside0.mk ho2; clear ho2 hb2 hg2 hat2))
    have HO := HO.out
    simp only [List.nil_append] at HO
    obtain ⟨A1, c1, e1, _, _⟩ := Kd.R_reads HO
    subst e1
    have HO3 := Aside0.mk HO
    clear HO
    go_wp2
    go_loopw [8] (fun v wr => ∃ k : Nat, k ≤ m.length ∧ v = .int .i64 k ∧ Aside0 (OwnB wr w1.heap.size (.slice A1 l.length c1) (fillN a m l k)) ∧ Aside0 (Below w.heap.size w wr) ∧ wr.cell? ⟨w.heap.size + 1, 0, none⟩ = some (.slice none 0 0) ∧ wr.frozen? ⟨w.heap.size + 1, 0, none⟩ = false) (fun v _ => m.length - (intOf v).toNat)
    case atStart => exact ⟨0, Nat.zero_le _, rfl, ⟨HO3.out⟩, ⟨by (repeat (first | (with_reducible exact Below.refl _ _) | (with_reducible assumption) | ((with_reducible apply Aside0.out); with_reducible assumption) | (with_reducible apply below_alloc) | (with_reducible apply below_drew1) | (with_reducible apply pw_below_drewN) | ((with_reducible refine below_set ?_ ?_); rotate_left; (first | omega | (simp; done) | (simp; omega)))))⟩, by go_simp, by go_simp⟩
    case round =>
      obtain ⟨k, hk, rfl, HO, HB, r2, r3⟩ := hrel
      by_cases hlt : k < m.length
      · obtain ⟨ad, rfl, hx⟩ := h2.at k (by omega) (by omega)
        have hx1 := (HB.out.cell (World.block_lt_of_cell? w _ hx)).trans hx
        rw [Int.toNat_natCast] at hx1
        have hl3 : (fillN a m l k).length = l.length := fillN_len _ _ _ _
        obtain ⟨g, cap, eo, gb, gl, cl, HC⟩ := Kd.R_form HO.out (by omega)
        rw [hl3] at eo
        injection eo with ea en ec
        subst ea ec
        have q0 : 0 ≤ (a + k) % 65536 % l.length := Int.emod_nonneg _ (by omega)
        have q1 : (a + k) % 65536 % l.length < l.length := Int.emod_lt_of_pos _ (by omega)
        obtain ⟨hy, hf⟩ := Kd.R_celln 0 HO.out ((a + k) % 65536 % l.length) q0 q1
        have HP := Aside0.mk (Kd.R_putg HO.out ((a + k) % 65536 % l.length) (rd m k)).1
        have hzb := HB.out.size
        have hg5 : ¬ w.heap.size + 1 = g := by omega
        have hg6 : ¬ g = w.heap.size + 1 := by omega
        have GB := Aside0.mk gb
        clear HC en gb
        have k0 : (0 : Int) ≤ (k : Int) := by omega
        have k1 : (k : Int) < (m.length : Int) := by omega
        go_wp2
        go_region
        go_wp2
        have gb := GB.out
        exact ⟨⟨k + 1, by omega, by go_num, ⟨OwnB.drew HP.out⟩, ⟨by (repeat (first | (with_reducible exact Below.refl _ _) | (with_reducible assumption) | ((with_reducible apply Aside0.out); with_reducible assumption) | (with_reducible apply below_alloc) | (with_reducible apply below_drew1) | (with_reducible apply pw_below_drewN) | ((with_reducible refine below_set ?_ ?_); rotate_left; (first | omega | (simp; done) | (simp; omega)))))⟩, by go_simp, by go_simp⟩, by simp [intOf]; omega⟩
      · have ek : k = m.length := by omega
        subst ek
        have hzb := HB.out.size
        go_wp2
        (refine bodyPost_ret (v := .agg #[.slice A1 l.length c1]) (by (simp only [results, Try.results15]; go_simp <;> (rfl))) rfl ?_)
        exact ⟨_, _, rfl, (by (apply OwnB.lower; (repeat (first | (with_reducible exact HO.out) | (with_reducible apply OwnB.alloc) | (with_reducible apply OwnB.drew) | (with_reducible apply OwnB.drewN) | (with_reducible apply OwnB.set))); all_goals (first | omega | (simp; done) | (simp; omega)))), by (repeat (first | (with_reducible exact Below.refl _ _) | (with_reducible assumption) | ((with_reducible apply Aside0.out); with_reducible assumption) | (with_reducible apply below_alloc) | (with_reducible apply below_drew1) | (with_reducible apply pw_below_drewN) | ((with_reducible refine below_set ?_ ?_); rotate_left; (first | omega | (simp; done) | (simp; omega)))))⟩
theorem bs_one {w : World} {g : Nat} {b : Int} (h : w.cell? ⟨g, 0, none⟩ = some (.int .u8 b)) (h0 : 0 ≤ b) (h1 : b < 256) : Bs w (some ⟨g, 0, none⟩) [b] := by
  refine ⟨Kd.C_of_reads (d := (0 : Int)) (h1 := fun _ => rfl) ⟨rfl, by simp, fun _ => ⟨_, rfl, fun j hj => ?_⟩⟩, fun i => ?_⟩
  · have : j = 0 := by simp at hj; omega
    subst this
    show w.cell? ((⟨g, 0, none⟩ : Addr).add 0) = some (.int .u8 b)
    rw [Addr.add_zero']
    exact h
  · rcases Nat.eq_zero_or_pos i.toNat with e | e
    · simp [rd, e]; omega
    · have : ∃ n, i.toNat = n + 1 := ⟨i.toNat - 1, by omega⟩
      obtain ⟨n, hn⟩ := this
      simp [rd, hn]
theorem impl_Fill1 (A : Option Addr) (c : Nat) (l : List Int) (a : Int) (g : Nat) (b : Int) (w : World) (h : Bs w A l) (h2 : w.cell? ⟨g, 0, none⟩ = some (.int .u8 b)) (h0 : 0 ≤ a) (h1 : a < 65536) (h3 : 0 ≤ b) (h4 : b < 256) :
    Calls Try.prog 13 #[.agg #[.slice A l.length c], .int .u16 a, .slice (some ⟨g, 0, none⟩) 1 1] w fun e w' => ∃ A1 c1, e = .returned (.agg #[.slice A1 (fill l a [b]).length c1]) ∧ OwnB w' w.heap.size (.slice A1 (fill l a [b]).length c1) (fill l a [b]) ∧ Below w.heap.size w w' :=
  impl_Fill A c l a (some ⟨g, 0, none⟩) 1 [b] w h (bs_one h2 h3 h4) h0 h1
theorem impl_Poke (A : Option Addr) (c : Nat) (l : List Int) (a b : Int) (w : World) (h : Bs w A l) (h0 : 0 ≤ a) (h1 : a < 65536) (h3 : 0 ≤ b) (h4 : b < 256) :
    Calls Try.prog 9 #[.agg #[.slice A l.length c], .int .u16 a, .int .u8 b] w fun e w' => ∃ A1 c1, e = .returned (.agg #[.slice A1 (fill l a [b]).length c1]) ∧ OwnB w' w.heap.size (.slice A1 (fill l a [b]).length c1) (fill l a [b]) ∧ Below w.heap.size w w' := by
  have HB := Aside0.mk (Below.refl w.heap.size w); go_enter Try.func9, Try.ntmps9
  go_wp2_with fail
  refine (impl_Fill1 A c l a _ b _ (h.below (by (repeat (first | (with_reducible exact Below.refl _ _) | (with_reducible assumption) | ((with_reducible apply Aside0.out); with_reducible assumption) | (with_reducible apply below_alloc) | (with_reducible apply below_drew1) | (with_reducible apply pw_below_drewN) | ((with_reducible refine below_set ?_ ?_); rotate_left; (first | omega | (simp; done) | (simp; omega))))))) (by go_simp) h0 h1 h3 h4).mono ?_
  rintro _ w1 ⟨A1, c1, rfl, HO, hb⟩
  (have HB := Aside0.mk (below_step (w := w) (by (repeat (first | (with_reducible exact Below.refl _ _) | (with_reducible assumption) | ((with_reducible apply Aside0.out); with_reducible assumption) | (with_reducible apply below_alloc) | (with_reducible apply below_drew1) | (with_reducible apply pw_below_drewN) | ((with_reducible refine below_set ?_ ?_); rotate_left; (first | omega | (simp; done) | (simp; omega)))))) hb); have hz1 := hb.size; obtain ⟨hcl1, hfr1, hlt1, _⟩ := bcell hb; (try simp only [World.size_alloc, World.size_setCell, World.size_drew] at hz1); (try simp only [World.size_alloc, World.size_setCell, World.size_drew] at hcl1 hfr1 hlt1); have hk1_0 : w.heap.size < w1.heap.size := (by omega); have hk1_1 : w.heap.size + 1 < w1.heap.size := (by omega); have HB1 := Aside0.mk (Below.refl w1.heap.size w1); clear hb)
  have HO := Aside0.mk HO
  go_wp2_with fail
  (refine bodyPost_ret (v := .agg #[.slice A1 (fill l a [b]).length c1]) (by (simp only [results, Try.results9]; go_simp <;> (rfl))) rfl ?_)
  exact ⟨_, _, rfl, (by (apply OwnB.lower; (repeat (first | (with_reducible exact HO.out) | (with_reducible apply OwnB.alloc) | (with_reducible apply OwnB.drew) | (with_reducible apply OwnB.drewN) | (with_reducible apply OwnB.set))); all_goals (first | omega | (simp; done) | (simp; omega)))), by (repeat (first | (with_reducible exact Below.refl _ _) | (with_reducible assumption) | ((with_reducible apply Aside0.out); with_reducible assumption) | (with_reducible apply below_alloc) | (with_reducible apply below_drew1) | (with_reducible apply pw_below_drewN) | ((with_reducible refine below_set ?_ ?_); rotate_left; (first | omega | (simp; done) | (simp; omega)))))⟩
end Go.Proofs.Ytgdfehacijafhaa
