/- Drawn memories of any size; the draws of FnRam and FnFill. -/
import Derived.Test.YtgdfehacijafhaaDraw4
set_option linter.unusedVariables false
set_option linter.unusedSimpArgs false
namespace Go.Proofs.Ytgdfehacijafhaa
open Go.RowKit Go.Proofs.YtgdfehacijafhaaW.PrintWords
theorem five_b (k : Nat) (hk : k < 5) : 0 ≤ rd [0, 255, 257, 768, 8192] k ∧ rd [0, 255, 257, 768, 8192] k ≤ 8192 := by
  have : k = 0 ∨ k = 1 ∨ k = 2 ∨ k = 3 ∨ k = 4 := by omega
  rcases this with rfl | rfl | rfl | rfl | rfl <;> decide
set_option maxRecDepth 20000 in
set_option maxHeartbeats 2000000 in
theorem spec_l05Any (g : Nat) (A : Option Addr) (c : Nat) (l : List Int) (w : World) (h : Cur w g A c l) (hl : l.length ≤ 1048576) :
    Calls Try.prog 39 #[.pointer (some ⟨g, 0, none⟩)] w fun e w' => ∃ L A1 c1, e = .returned (.agg #[.slice A1 (List.length L) c1]) ∧ L.length ≤ 8192 ∧ Lst w w' g A c l (.slice A1 L.length c1) L := by
  have hg : g < w.heap.size := World.block_lt_of_cell? w _ h.b
  have HB := Aside0.mk (Below.refl w.heap.size w); go_enter Try.func39, Try.ntmps39
  go_wp2_with fail
  refine (spec_l01Once g A c l 10 _ (h.below (by (repeat (first | (with_reducible exact Below.refl _ _) | (with_reducible assumption) | ((with_reducible apply Aside0.out); with_reducible assumption) | (with_reducible apply below_alloc) | (with_reducible apply below_drew1) | (with_reducible apply pw_below_drewN) | ((with_reducible refine below_set ?_ ?_); rotate_left; (first | omega | (simp; done) | (simp; omega))))))) hl (by omega) (by omega)).mono ?_
  rintro _ w1 ⟨b, rfl, hc, hb⟩
  have e0 : w1.cell? ⟨w.heap.size, 0, none⟩ = some (.slice none 0 0) := hb.cell (by go_simp) (by intro e; injection e with e; simp at e; omega)
  have f0 : w1.frozen? ⟨w.heap.size, 0, none⟩ = false := (World.frozen?_of_block (hb.block w.heap.size (by simp) (by intro e; injection e with e; omega))).trans (by go_simp)
  have s1 : w.heap.size < w1.heap.size := by have := hb.size; simp at this; omega
  have HC1 := Aside0.mk hc
  have HG1 := Aside0.mk (grown_al _ hb)
  clear hc hb
  cases b
  · go_wp2_with fail
    refine (spec_l05Ram g A c l _ HC1.out hl).mono ?_
    rintro _ w2 ⟨L, A2, c2, rfl, hr, HL⟩
    have hp := ramSize_le hr
    have e02 : w2.cell? ⟨w.heap.size, 0, none⟩ = some (.slice none 0 0) := HL.only.cell e0 (by intro e; injection e with e; simp at e; omega)
    have f02 : w2.frozen? ⟨w.heap.size, 0, none⟩ = false := (World.frozen?_of_block (HL.only.block w.heap.size (by omega) (by intro e; injection e with e; omega))).trans f0
    have HL2 := Aside0.mk HL
    clear HL e0 f0
    go_wp2_with fail
    (refine bodyPost_ret (v := .agg #[.slice A2 L.length c2]) (by (simp only [results, Try.results39]; go_simp <;> (rfl))) rfl ?_)
    exact ⟨_, _, _, rfl, by omega, ⟨(HL2.out.own.set (by first | omega | (simp; omega) | (show w.heap.size < _; simp; omega)) _).lower (by omega), HL2.out.b, HL2.out.cur.away (grown_set (g := w.heap.size) (grown_refl w2 _) 0 _) (fun k e => by injection e with e; omega), grown_new (HG1.out.trans HL2.out.only) (by omega) _ _⟩⟩
  · go_wp2_with fail
    refine (spec_l01PickInt g A c l (some ⟨w1.heap.size, 0, none⟩) 5 [0, 255, 257, 768, 8192] _ (HC1.out.below (by (repeat (first | (with_reducible exact Below.refl _ _) | (with_reducible assumption) | ((with_reducible apply Aside0.out); with_reducible assumption) | (with_reducible apply below_alloc) | (with_reducible apply below_drew1) | (with_reducible apply pw_below_drewN) | ((with_reducible refine below_set ?_ ?_); rotate_left; (first | omega | (simp; done) | (simp; omega))))))) hl (C_alloc _ _ _ (by decide)) (by decide) (by decide) (fun ad e => by injection e with e; subst e; simp; omega)).mono ?_
    rintro _ w2 ⟨k, hk, rfl, hc, hb⟩
    obtain ⟨n0, n1⟩ := five_b k hk
    generalize rd [0, 255, 257, 768, 8192] k = n at n0 n1
    have e02 : w2.cell? ⟨w.heap.size, 0, none⟩ = some (.slice none 0 0) := hb.cell (by go_simp) (by intro e; injection e with e; simp at e; omega)
    have f02 : w2.frozen? ⟨w.heap.size, 0, none⟩ = false := (World.frozen?_of_block (hb.block w.heap.size (by simp; omega) (by intro e; injection e with e; omega))).trans (by go_simp)
    have s2 : w1.heap.size ≤ w2.heap.size := by have := hb.size; simp at this; omega
    have HC2 := Aside0.mk hc
    have HG2 := Aside0.mk (HG1.out.trans (grown_al _ hb))
    clear hc hb e0 f0 HC1 HG1
    go_wp2_with ((with_reducible refine gate_dst (N := 8) rfl ?_); refine Kd.R_make (Kd.int .u8) _ 5 rfl (N := 8) rfl 22 _ _ rfl n rfl rfl Try.underlying22 (.int .u8 0) 1 infoU8 rfl (by decide) (by omega) 0 (ok := fun _ => True) (okp := fun _ => True) rfl (fun _ hk => hk) trivial (by omega) (by omega) (Below.refl _ _) (Nat.le_refl _) ?_; intro v1 w3 ho hb hg3 hn3; obtain ⟨A1, c1, e1, hc1, hr1⟩ := Kd.R_reads ho; simp only [List.length_replicate] at e1; subst e1; have HO := Aside0.mk (show OwnB _ _ _ _ from ho); have HB3 := Aside0.mk hb; have s3 := hb.size; have e03 : w3.cell? ⟨w.heap.size, 0, none⟩ = some (.slice none 0 0) := (hb.cell (by show w.heap.size < _; omega)).trans e02; have f03 : w3.frozen? ⟨w.heap.size, 0, none⟩ = false := (hb.frozen (by show w.heap.size < _; omega)).trans f02; clear ho hn3 hg3 hr1 hc1 hb)
    (refine bodyPost_ret (v := .agg #[.slice A1 n.toNat c1]) (by (simp only [results, Try.results39]; go_simp <;> (rfl))) rfl ?_)
    exact ⟨List.replicate n.toNat 0, A1, c1, by rw [List.length_replicate], by rw [List.length_replicate]; omega, ⟨by rw [List.length_replicate]; exact (HO.out.set (by first | omega | (simp; omega) | (show w.heap.size < _; simp; omega)) _).lower (by omega), fun x hx => by rw [(List.mem_replicate.1 hx).2]; omega, (HC2.out.below HB3.out).away (grown_set (g := w.heap.size) (grown_refl w3 _) 0 _) (fun k e => by injection e with e; omega), grown_new (grown_below HG2.out HB3.out) (by omega) _ _⟩⟩
set_option maxRecDepth 20000 in
set_option maxHeartbeats 2000000 in
theorem spec_DrawPoke (A : Option Addr) (c : Nat) (l : List Int) (w : World) (h : Bs w A l) (hl : l.length ≤ 1048576) :
    Calls Try.prog 8 #[.slice A l.length c] w fun e w' => ∃ L A1 c1 a x, e = .returned (.tuple #[.agg #[.slice A1 (List.length L) c1], .int .u16 a, .int .u8 x]) ∧ L.length ≤ 8192 ∧ 0 ≤ a ∧ a < 65536 ∧ 0 ≤ x ∧ x < 256 ∧ OwnB w' w.heap.size (.slice A1 L.length c1) L ∧ (∀ i, 0 ≤ rd L i ∧ rd L i < 256) ∧ Below w.heap.size w w' := by
  have HB := Aside0.mk (Below.refl w.heap.size w); go_enter Try.func8, Try.ntmps8
  go_wp2_with fail
  refine (spec_l01New A c l _ (h.below (by (repeat (first | (with_reducible exact Below.refl _ _) | (with_reducible assumption) | ((with_reducible apply Aside0.out); with_reducible assumption) | (with_reducible apply below_alloc) | (with_reducible apply below_drew1) | (with_reducible apply pw_below_drewN) | ((with_reducible refine below_set ?_ ?_); rotate_left; (first | omega | (simp; done) | (simp; omega))))))) hl).mono ?_
  rintro _ w1 ⟨g, rfl, g0, hc, hb⟩
  have hg : g < w1.heap.size := World.block_lt_of_cell? w1 _ hc.b
  rw [World.size_alloc] at g0
  have e0 : w1.cell? ⟨w.heap.size, 0, none⟩ = some (.slice none 0 0) := (hb.cell (by simp)).trans (by go_simp); have f0 : w1.frozen? ⟨w.heap.size, 0, none⟩ = false := (hb.frozen (by simp)).trans (by go_simp)
  have HB1 := Aside0.mk (below_step (w := w) (by (repeat (first | (with_reducible exact Below.refl _ _) | (with_reducible assumption) | ((with_reducible apply Aside0.out); with_reducible assumption) | (with_reducible apply below_alloc) | (with_reducible apply below_drew1) | (with_reducible apply pw_below_drewN) | ((with_reducible refine below_set ?_ ?_); rotate_left; (first | omega | (simp; done) | (simp; omega)))))) hb)
  have HC1 := Aside0.mk hc
  have s1 : w.heap.size < w1.heap.size := by have := hb.size; simp at this; omega
  clear hc hb
  go_wp2_with fail
  refine (spec_l05Any g A c l _ HC1.out hl).mono ?_
  rintro _ w2 ⟨L, A2, c2, rfl, hL, HL⟩
  have e02 : w2.cell? ⟨w.heap.size, 0, none⟩ = some (.slice none 0 0) := HL.only.cell e0 (by intro e; injection e with e; simp at e; omega)
  have f02 : w2.frozen? ⟨w.heap.size, 0, none⟩ = false := (World.frozen?_of_block (HL.only.block w.heap.size (by omega) (by intro e; injection e with e; omega))).trans f0
  have HB2 := Aside0.mk (Below.grown HB1.out HL.only (by omega) (fun k e => by injection e with e; omega))
  have s2 := HL.only.size
  have s12 : w.heap.size < w2.heap.size := by omega
  have HL2 := Aside0.mk HL.own
  have HC2 := Aside0.mk HL.cur
  have hLb := HL.b
  clear HL e0 f0 HC1 HB1
  go_wp2_with fail
  refine (spec_l04Pc g A c l _ (HC2.out.below (by (repeat (first | (with_reducible exact Below.refl _ _) | (with_reducible assumption) | ((with_reducible apply Aside0.out); with_reducible assumption) | (with_reducible apply below_alloc) | (with_reducible apply below_drew1) | (with_reducible apply pw_below_drewN) | ((with_reducible refine below_set ?_ ?_); rotate_left; (first | omega | (simp; done) | (simp; omega))))))) hl).mono ?_
  rintro _ w3 ⟨a, rfl, a0, a1, hc, hb⟩
  have e03 : w3.cell? ⟨w.heap.size, 0, none⟩ = some (.slice none 0 0) := hb.cell (by go_simp) (by intro e; injection e with e; simp at e; omega)
  have f03 : w3.frozen? ⟨w.heap.size, 0, none⟩ = false := (World.frozen?_of_block (hb.block w.heap.size (by simp; omega) (by intro e; injection e with e; omega))).trans (by go_simp)
  have er3 : w3.cell? ⟨w2.heap.size, 0, none⟩ = some (.slice A2 L.length c2) := hb.cell (by go_simp) (by intro e; injection e with e; simp at e; omega)
  have HB3 := Aside0.mk (Below.grown (below_alloc HB2.out _) hb (by simp; omega) (fun k e => by injection e with e; omega))
  have HL3 := Aside0.mk (OwnB.grown (OwnB.alloc HL2.out _) hb (fun k e => by injection e with e; omega))
  have HC3 := Aside0.mk hc
  have s3 : w2.heap.size + 1 ≤ w3.heap.size := by have := hb.size; simpa using this
  clear hc hb e02 f02 HC2 HB2 HL2
  go_wp2_with fail
  go_region_held3 (fun w' => w'.cell? ⟨w2.heap.size, 0, none⟩ = some (.slice A2 L.length c2)) (first | (go_keep; done) | (go_split_ands; (repeat' apply And.intro) <;> (first | (with_reducible assumption) | (go_simp; done) | (refine cell_keep ?_ (by assumption); (repeat (first | (with_reducible exact Below.refl _ _) | (with_reducible assumption) | ((with_reducible apply Aside0.out); with_reducible assumption) | (with_reducible apply below_alloc) | (with_reducible apply below_drew1) | (with_reducible apply pw_below_drewN) | ((with_reducible refine below_set ?_ ?_); rotate_left; (first | omega | (simp; done) | (simp; omega))))); done) | (repeat (first | (with_reducible exact Below.refl _ _) | (with_reducible assumption) | ((with_reducible apply Aside0.out); with_reducible assumption) | (with_reducible apply below_alloc) | (with_reducible apply below_drew1) | (with_reducible apply pw_below_drewN) | ((with_reducible refine below_set ?_ ?_); rotate_left; (first | omega | (simp; done) | (simp; omega)))))))) (first | (go_at_call 41; ((with_reducible refine Calls.mono (spec_l02Byte g A c l _ (HC3.out.below (by (repeat (first | (with_reducible exact Below.refl _ _) | (with_reducible assumption) | ((with_reducible apply Aside0.out); with_reducible assumption) | (with_reducible apply below_alloc) | (with_reducible apply below_drew1) | (with_reducible apply pw_below_drewN) | ((with_reducible refine below_set ?_ ?_); rotate_left; (first | omega | (simp; done) | (simp; omega))))))) hl) ?_); rintro _ w4 ⟨x, rfl, x0, x1, hc4, hb4⟩; have er4 : w4.cell? ⟨w2.heap.size, 0, none⟩ = some (.slice A2 L.length c2) := hb4.cell (by go_simp) (by intro e; injection e with e; simp at e; omega); have e04 : w4.cell? ⟨w.heap.size, 0, none⟩ = some (.slice none 0 0) := hb4.cell (by go_simp) (by intro e; injection e with e; simp at e; omega); have f04 : w4.frozen? ⟨w.heap.size, 0, none⟩ = false := (World.frozen?_of_block (hb4.block w.heap.size (by simp; omega) (by intro e; injection e with e; omega))).trans (by go_simp); have s4 : w3.heap.size ≤ w4.heap.size := by { have hh := hb4.size; simpa using hh }; have HL4 := Aside0.mk (OwnB.grown (HL3.out.below (by (repeat (first | (with_reducible exact Below.refl _ _) | (with_reducible assumption) | ((with_reducible apply Aside0.out); with_reducible assumption) | (with_reducible apply below_alloc) | (with_reducible apply below_drew1) | (with_reducible apply pw_below_drewN) | ((with_reducible refine below_set ?_ ?_); rotate_left; (first | omega | (simp; done) | (simp; omega))))))) hb4 (fun k e => by injection e with e; omega)); have HB4 := Aside0.mk (Below.grown (below_step HB3.out (by (repeat (first | (with_reducible exact Below.refl _ _) | (with_reducible assumption) | ((with_reducible apply Aside0.out); with_reducible assumption) | (with_reducible apply below_alloc) | (with_reducible apply below_drew1) | (with_reducible apply pw_below_drewN) | ((with_reducible refine below_set ?_ ?_); rotate_left; (first | omega | (simp; done) | (simp; omega))))))) hb4 (by simp; omega) (fun k e => by injection e with e; omega)); clear hc4 hb4)))
  go_wp2_with fail
  (refine bodyPost_ret (v := .tuple #[.agg #[.slice A2 L.length c2], .int .u16 a, .int .u8 x]) (by (simp only [results, Try.results8]; go_simp <;> (rfl))) rfl ?_)
  exact ⟨_, _, _, _, _, rfl, hL, a0, a1, x0, x1, (HL4.out.set (by first | omega | (simp; omega) | (show w.heap.size < _; simp; omega)) _).lower (by omega), rd_lit2 L hLb, by (repeat (first | (with_reducible exact Below.refl _ _) | (with_reducible assumption) | ((with_reducible apply Aside0.out); with_reducible assumption) | (with_reducible apply below_alloc) | (with_reducible apply below_drew1) | (with_reducible apply pw_below_drewN) | ((with_reducible refine below_set ?_ ?_); rotate_left; (first | omega | (simp; done) | (simp; omega)))))⟩
end Go.Proofs.Ytgdfehacijafhaa
