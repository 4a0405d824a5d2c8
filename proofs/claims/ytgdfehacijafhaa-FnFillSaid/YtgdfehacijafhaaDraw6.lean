/- The draw of FnFill. -/
import Derived.Test.YtgdfehacijafhaaDraw5
set_option linter.unusedVariables false
set_option linter.unusedSimpArgs false
namespace Go.Proofs.Ytgdfehacijafhaa
open Go.RowKit Go.Proofs.YtgdfehacijafhaaW.PrintWords
set_option maxRecDepth 20000 in
set_option maxHeartbeats 4000000 in
theorem spec_DrawFill (A : Option Addr) (c : Nat) (l : List Int) (w : World) (h : Bs w A l) (hl : l.length ≤ 1048576) :
    Calls Try.prog 12 #[.slice A l.length c] w fun e w' => ∃ L A1 c1 a M B d, e = .returned (.tuple #[.agg #[.slice A1 (List.length L) c1], .int .u16 a, .slice B (List.length M) d]) ∧ L.length ≤ 8192 ∧ 0 ≤ a ∧ a < 65536 ∧ M.length ≤ 1025 ∧ OwnB w' w.heap.size (.slice A1 L.length c1) L ∧ (∀ i, 0 ≤ rd L i ∧ rd L i < 256) ∧ OwnB w' w.heap.size (.slice B M.length d) M ∧ (∀ i, 0 ≤ rd M i ∧ rd M i < 256) ∧ Below w.heap.size w w' := by
  have HB := Aside0.mk (Below.refl w.heap.size w); go_enter Try.func12, Try.ntmps12
  go_wp2_with fail
  refine (spec_l01New A c l _ (h.below (by (repeat (first | (with_reducible exact Below.refl _ _) | (with_reducible assumption) | ((with_reducible apply Aside0.out); with_reducible assumption) | (with_reducible apply below_alloc) | (with_reducible apply below_drew1) | (with_reducible apply pw_below_drewN) | ((with_reducible refine below_set ?_ ?_); rotate_left; (first | omega | (simp; done) | (simp; omega))))))) hl).mono ?_
  rintro _ w1 ⟨g, rfl, g0, hc, hb⟩
  have hg : g < w1.heap.size := World.block_lt_of_cell? w1 _ hc.b
  rw [World.size_alloc] at g0
  have e0 : w1.cell? ⟨w.heap.size, 0, none⟩ = some (.slice none 0 0) := (hb.cell (by simp)).trans (by go_simp); have f0 : w1.frozen? ⟨w.heap.size, 0, none⟩ = false := (hb.frozen (by simp)).trans (by go_simp)
  have HB1 := Aside0.mk (below_step (w := w) (by (repeat (first | (with_reducible exact Below.refl _ _) | (with_reducible assumption) | ((with_reducible apply Aside0.out); with_reducible assumption) | (with_reducible apply below_alloc) | (with_reducible apply below_drew1) | (with_reducible apply pw_below_drewN) | ((with_reducible refine below_set ?_ ?_); rotate_left; (first | omega | (simp; done) | (simp; omega)))))) hb)
  have HC1 := Aside0.mk hc
  have s1 : w.heap.size < w1.heap.size := by have := hb.size; simp at this; omega
  clear hc hb
  go_wp2_with fail
  refine (spec_l05Any g A c l _ HC1.out hl).mono ?_
  rintro _ w2 ⟨L, A2, c2, rfl, hL, HL⟩
  have e02 : w2.cell? ⟨w.heap.size, 0, none⟩ = some (.slice none 0 0) := HL.only.cell e0 (by intro e; injection e with e; simp at e; omega)
  have f02 : w2.frozen? ⟨w.heap.size, 0, none⟩ = false := (World.frozen?_of_block (HL.only.block w.heap.size (by omega) (by intro e; injection e with e; omega))).trans f0
  have HB2 := Aside0.mk (Below.grown HB1.out HL.only (by omega) (fun k e => by injection e with e; omega))
  have s2 := HL.only.size
  have s12 : w.heap.size < w2.heap.size := by omega
  have HL2 := Aside0.mk HL.own
  have HC2 := Aside0.mk HL.cur
  have hLb := HL.b
  clear HL e0 f0 HC1 HB1
  go_wp2_with fail
  refine (spec_l04Pc g A c l _ (HC2.out.below (by (repeat (first | (with_reducible exact Below.refl _ _) | (with_reducible assumption) | ((with_reducible apply Aside0.out); with_reducible assumption) | (with_reducible apply below_alloc) | (with_reducible apply below_drew1) | (with_reducible apply pw_below_drewN) | ((with_reducible refine below_set ?_ ?_); rotate_left; (first | omega | (simp; done) | (simp; omega))))))) hl).mono ?_
  rintro _ w3 ⟨a, rfl, a0, a1, hc, hb⟩
  have e03 : w3.cell? ⟨w.heap.size, 0, none⟩ = some (.slice none 0 0) := hb.cell (by go_simp) (by intro e; injection e with e; simp at e; omega)
  have f03 : w3.frozen? ⟨w.heap.size, 0, none⟩ = false := (World.frozen?_of_block (hb.block w.heap.size (by simp; omega) (by intro e; injection e with e; omega))).trans (by go_simp)
  have er3 : w3.cell? ⟨w2.heap.size, 0, none⟩ = some (.slice A2 L.length c2) := hb.cell (by go_simp) (by intro e; injection e with e; simp at e; omega)
  have HB3 := Aside0.mk (Below.grown (below_alloc HB2.out _) hb (by simp; omega) (fun k e => by injection e with e; omega))
  have HL3 := Aside0.mk (OwnB.grown (OwnB.alloc HL2.out _) hb (fun k e => by injection e with e; omega))
  have HC3 := Aside0.mk hc
  have s3 : w2.heap.size + 1 ≤ w3.heap.size := by have := hb.size; simpa using this
  clear hc hb e02 f02 HC2 HB2 HL2
  go_wp2_with fail
  refine (spec_l01Below g A c l 20 _ HC3.out hl (by omega) (by omega)).mono ?_
  rintro _ w4 ⟨y, rfl, y0, y1, hc, hb⟩
  have y2 := y1 (by omega)
  have t1 : w.heap.size < w3.heap.size := by omega
  have t2 : w2.heap.size < w3.heap.size := by omega
  have e04 : w4.cell? ⟨w.heap.size, 0, none⟩ = some (.slice none 0 0) := hb.cell (by go_simp) (by intro e; injection e with e; simp at e; omega); have f04 : w4.frozen? ⟨w.heap.size, 0, none⟩ = false := (World.frozen?_of_block (hb.block w.heap.size (by first | omega | (simp; omega)) (by intro e; injection e with e; omega))).trans (by go_simp); have er4 : w4.cell? ⟨w2.heap.size, 0, none⟩ = some (.slice A2 L.length c2) := hb.cell (by go_simp) (by intro e; injection e with e; simp at e; omega); have HB4 := Aside0.mk (Below.grown (below_step HB3.out (by (repeat (first | (with_reducible exact Below.refl _ _) | (with_reducible assumption) | ((with_reducible apply Aside0.out); with_reducible assumption) | (with_reducible apply below_alloc) | (with_reducible apply below_drew1) | (with_reducible apply pw_below_drewN) | ((with_reducible refine below_set ?_ ?_); rotate_left; (first | omega | (simp; done) | (simp; omega))))))) hb (by first | omega | (simp; omega)) (fun k e => by injection e with e; omega)); have HL4 := Aside0.mk (OwnB.grown (HL3.out.below (by (repeat (first | (with_reducible exact Below.refl _ _) | (with_reducible assumption) | ((with_reducible apply Aside0.out); with_reducible assumption) | (with_reducible apply below_alloc) | (with_reducible apply below_drew1) | (with_reducible apply pw_below_drewN) | ((with_reducible refine below_set ?_ ?_); rotate_left; (first | omega | (simp; done) | (simp; omega))))))) hb (fun k e => by injection e with e; omega)); have s4 : w3.heap.size ≤ w4.heap.size := (by { have hh := hb.size; simpa using hh })
  have HC4 := Aside0.mk hc
  clear hc hb y1 e03 f03 er3 HB3 HL3 HC3
  go_wp2_with fail
  refine (spec_l04Bytes g A c l y _ HC4.out hl (by omega) (by omega)).mono ?_
  rintro _ w5 ⟨M, B, d, rfl, m0, m1, HM⟩
  have hc := HM.cur
  have hb := HM.only
  have t3 : w.heap.size < w4.heap.size := by omega
  have t4 : w2.heap.size < w4.heap.size := by omega
  have e05 : w5.cell? ⟨w.heap.size, 0, none⟩ = some (.slice none 0 0) := hb.cell (by go_simp) (by intro e; injection e with e; simp at e; omega); have f05 : w5.frozen? ⟨w.heap.size, 0, none⟩ = false := (World.frozen?_of_block (hb.block w.heap.size (by first | omega | (simp; omega)) (by intro e; injection e with e; omega))).trans (by go_simp); have er5 : w5.cell? ⟨w2.heap.size, 0, none⟩ = some (.slice A2 L.length c2) := hb.cell (by go_simp) (by intro e; injection e with e; simp at e; omega); have HB5 := Aside0.mk (Below.grown (below_step HB4.out (by (repeat (first | (with_reducible exact Below.refl _ _) | (with_reducible assumption) | ((with_reducible apply Aside0.out); with_reducible assumption) | (with_reducible apply below_alloc) | (with_reducible apply below_drew1) | (with_reducible apply pw_below_drewN) | ((with_reducible refine below_set ?_ ?_); rotate_left; (first | omega | (simp; done) | (simp; omega))))))) hb (by first | omega | (simp; omega)) (fun k e => by injection e with e; omega)); have HL5 := Aside0.mk (OwnB.grown (HL4.out.below (by (repeat (first | (with_reducible exact Below.refl _ _) | (with_reducible assumption) | ((with_reducible apply Aside0.out); with_reducible assumption) | (with_reducible apply below_alloc) | (with_reducible apply below_drew1) | (with_reducible apply pw_below_drewN) | ((with_reducible refine below_set ?_ ?_); rotate_left; (first | omega | (simp; done) | (simp; omega))))))) hb (fun k e => by injection e with e; omega)); have s5 : w4.heap.size ≤ w5.heap.size := (by { have hh := hb.size; simpa using hh })
  have HC5 := Aside0.mk hc
  have HM5 := Aside0.mk HM.own
  have hMb := HM.b
  clear hc hb HM e04 f04 er4 HB4 HL4 HC4
  go_wp2_with fail
  refine (spec_l01Once g A c l 12 _ HC5.out hl (by omega) (by omega)).mono ?_
  rintro _ w6 ⟨b, rfl, hc, hb⟩
  have t5 : w.heap.size < w5.heap.size := by omega
  have t6 : w2.heap.size < w5.heap.size := by omega
  have e06 : w6.cell? ⟨w.heap.size, 0, none⟩ = some (.slice none 0 0) := hb.cell (by go_simp) (by intro e; injection e with e; simp at e; omega); have f06 : w6.frozen? ⟨w.heap.size, 0, none⟩ = false := (World.frozen?_of_block (hb.block w.heap.size (by first | omega | (simp; omega)) (by intro e; injection e with e; omega))).trans (by go_simp); have er6 : w6.cell? ⟨w2.heap.size, 0, none⟩ = some (.slice A2 L.length c2) := hb.cell (by go_simp) (by intro e; injection e with e; simp at e; omega); have HB6 := Aside0.mk (Below.grown (below_step HB5.out (by (repeat (first | (with_reducible exact Below.refl _ _) | (with_reducible assumption) | ((with_reducible apply Aside0.out); with_reducible assumption) | (with_reducible apply below_alloc) | (with_reducible apply below_drew1) | (with_reducible apply pw_below_drewN) | ((with_reducible refine below_set ?_ ?_); rotate_left; (first | omega | (simp; done) | (simp; omega))))))) hb (by first | omega | (simp; omega)) (fun k e => by injection e with e; omega)); have HL6 := Aside0.mk (OwnB.grown (HL5.out.below (by (repeat (first | (with_reducible exact Below.refl _ _) | (with_reducible assumption) | ((with_reducible apply Aside0.out); with_reducible assumption) | (with_reducible apply below_alloc) | (with_reducible apply below_drew1) | (with_reducible apply pw_below_drewN) | ((with_reducible refine below_set ?_ ?_); rotate_left; (first | omega | (simp; done) | (simp; omega))))))) hb (fun k e => by injection e with e; omega)); have s6 : w5.heap.size ≤ w6.heap.size := (by { have hh := hb.size; simpa using hh })
  have HC6 := Aside0.mk hc
  have HM6 := Aside0.mk (OwnB.grown HM5.out hb (fun k e => by injection e with e; omega))
  clear hc hb e05 f05 er5 HB5 HL5 HC5 HM5
  cases b
  · go_wp2_with fail
    (refine bodyPost_ret (v := .tuple #[.agg #[.slice A2 L.length c2], .int .u16 a, .slice B M.length d]) (by (simp only [results, Try.results12]; go_simp <;> (rfl))) rfl ?_)
    exact ⟨_, _, _, _, _, _, _, rfl, hL, a0, a1, by omega, (HL6.out.set (by first | omega | (simp; omega) | (show w.heap.size < _; simp; omega)) _).lower (by omega), rd_lit2 L hLb, (HM6.out.set (by first | omega | (simp; omega) | (show w.heap.size < _; simp; omega)) _).lower (by omega), rd_lit2 M hMb, by (repeat (first | (with_reducible exact Below.refl _ _) | (with_reducible assumption) | ((with_reducible apply Aside0.out); with_reducible assumption) | (with_reducible apply below_alloc) | (with_reducible apply below_drew1) | (with_reducible apply pw_below_drewN) | ((with_reducible refine below_set ?_ ?_); rotate_left; (first | omega | (simp; done) | (simp; omega)))))⟩
  · go_wp2_with fail
    refine (spec_l01Below g A c l 3 _ HC6.out hl (by omega) (by omega)).mono ?_
    rintro _ w7 ⟨z, rfl, z0, z1, hc, hb⟩
    have z2 := z1 (by omega)
    have t7 : w.heap.size < w6.heap.size := by omega
    have t8 : w2.heap.size < w6.heap.size := by omega
    have e07 : w7.cell? ⟨w.heap.size, 0, none⟩ = some (.slice none 0 0) := hb.cell (by go_simp) (by intro e; injection e with e; simp at e; omega); have f07 : w7.frozen? ⟨w.heap.size, 0, none⟩ = false := (World.frozen?_of_block (hb.block w.heap.size (by first | omega | (simp; omega)) (by intro e; injection e with e; omega))).trans (by go_simp); have er7 : w7.cell? ⟨w2.heap.size, 0, none⟩ = some (.slice A2 L.length c2) := hb.cell (by go_simp) (by intro e; injection e with e; simp at e; omega); have HB7 := Aside0.mk (Below.grown (below_step HB6.out (by (repeat (first | (with_reducible exact Below.refl _ _) | (with_reducible assumption) | ((with_reducible apply Aside0.out); with_reducible assumption) | (with_reducible apply below_alloc) | (with_reducible apply below_drew1) | (with_reducible apply pw_below_drewN) | ((with_reducible refine below_set ?_ ?_); rotate_left; (first | omega | (simp; done) | (simp; omega))))))) hb (by first | omega | (simp; omega)) (fun k e => by injection e with e; omega)); have HL7 := Aside0.mk (OwnB.grown (HL6.out.below (by (repeat (first | (with_reducible exact Below.refl _ _) | (with_reducible assumption) | ((with_reducible apply Aside0.out); with_reducible assumption) | (with_reducible apply below_alloc) | (with_reducible apply below_drew1) | (with_reducible apply pw_below_drewN) | ((with_reducible refine below_set ?_ ?_); rotate_left; (first | omega | (simp; done) | (simp; omega))))))) hb (fun k e => by injection e with e; omega)); have s7 : w6.heap.size ≤ w7.heap.size := (by { have hh := hb.size; simpa using hh })
    clear hc hb e06 f06 er6 HB6 HL6 HC6 HM6 z1
    obtain ⟨n, hn⟩ : ∃ n, 1023 + z = n := ⟨_, rfl⟩
    have n0 : 1023 ≤ n := by omega
    have n1 : n ≤ 1025 := by omega
    have t9 : w.heap.size < w7.heap.size := by omega
    have t10 : w2.heap.size < w7.heap.size := by omega
    go_wp2_with ((with_reducible refine gate_dst (N := 25) rfl ?_); refine Kd.R_make (Kd.int .u8) _ 5 rfl (N := 25) rfl 22 _ _ rfl n rfl rfl Try.underlying22 (.int .u8 0) 1 infoU8 rfl (by decide) (by omega) 0 (ok := fun _ => True) (okp := fun _ => True) rfl (fun _ hk => hk) trivial (by omega) (by omega) (Below.refl _ _) (Nat.le_refl _) ?_; intro v1 w8 ho hb hg3 hn3; obtain ⟨A1, c1, e1, hc1, hr1⟩ := Kd.R_reads ho; simp only [List.length_replicate] at e1; subst e1; have HO := Aside0.mk (show OwnB _ _ _ _ from ho); have HB8 := Aside0.mk hb; clear ho hn3 hg3 hr1 hc1 hb)
    go_loopw [9] (fun v9 wr => ∃ i : Nat, ∃ R : List Int, i ≤ n.toNat ∧ v9 = .int .i64 i ∧ R.length = n.toNat ∧ (∀ x ∈ R, 0 ≤ x ∧ x < 256) ∧ Aside0 (OwnB wr w7.heap.size (.slice A1 n.toNat c1) R) ∧ Aside0 (Below w7.heap.size w7 wr)) (fun v9 _ => n.toNat - (intOf v9).toNat)
    case atStart => exact ⟨0, _, Nat.zero_le _, rfl, by rw [List.length_replicate], fun x hx => by rw [(List.mem_replicate.1 hx).2]; omega, HO, HB8⟩
    case round =>
      clear HO HB8
      obtain ⟨i, R, hi, rfl, hN, hRb, HR, HW⟩ := hrel
      by_cases hlt : i < n.toNat
      · obtain ⟨r, cap, eo, gb, gl, cl, HCr⟩ := Kd.R_form HR.out (by omega)
        rw [hN] at eo
        injection eo with ea en ec
        subst ea ec
        obtain ⟨hy, hf⟩ := Kd.R_celln 0 HR.out i (by omega) (by omega)
        have HP := Aside0.mk (Kd.R_putg HR.out i (IntKind.u8.wrap i)).1
        simp only [Int.toNat_natCast] at hy hf HP
        have hxb := Go.Proofs.Ytgdfehacijafhaa.w8 (i : Int)
        have q0 : (0 : Int) ≤ (i : Int) := by omega
        have q1 : (i : Int) < n := by omega
        have GB := Aside0.mk gb
        clear HCr en gb
        go_wp2
        have gb := GB.out
        exact ⟨⟨i + 1, R.set i (IntKind.u8.wrap i), by omega, by go_num, by simpa using hN, set_b hRb i hxb, ⟨HP.out⟩, ⟨by (repeat (first | (with_reducible exact Below.refl _ _) | (with_reducible assumption) | ((with_reducible apply Aside0.out); with_reducible assumption) | (with_reducible apply below_alloc) | (with_reducible apply below_drew1) | (with_reducible apply pw_below_drewN) | ((with_reducible refine below_set ?_ ?_); rotate_left; (first | omega | (simp; done) | (simp; omega)))))⟩⟩, by simp [intOf]; omega⟩
      · have e08 : wr.cell? ⟨w.heap.size, 0, none⟩ = some (.slice none 0 0) := (HW.out.cell t9).trans e07
        have f08 : wr.frozen? ⟨w.heap.size, 0, none⟩ = false := (HW.out.frozen t9).trans f07
        have er8 : wr.cell? ⟨w2.heap.size, 0, none⟩ = some (.slice A2 L.length c2) := (HW.out.cell t10).trans er7
        have s8 := HW.out.size
        have HB8 := Aside0.mk (below_step HB7.out HW.out)
        go_wp2_with fail
        (refine bodyPost_ret (v := .tuple #[.agg #[.slice A2 L.length c2], .int .u16 a, .slice A1 n.toNat c1]) (by (simp only [results, Try.results12]; go_simp <;> (rfl))) rfl ?_)
        exact ⟨L, A2, c2, a, R, A1, c1, by rw [hN], hL, a0, a1, by omega, ((HL7.out.below HW.out).set (by first | omega | (simp; omega) | (show w.heap.size < _; simp; omega)) _).lower (by omega), rd_lit2 L hLb, by rw [hN]; exact (HR.out.set (by first | omega | (simp; omega) | (show w.heap.size < _; simp; omega)) _).lower (by omega), rd_lit2 R hRb, by (repeat (first | (with_reducible exact Below.refl _ _) | (with_reducible assumption) | ((with_reducible apply Aside0.out); with_reducible assumption) | (with_reducible apply below_alloc) | (with_reducible apply below_drew1) | (with_reducible apply pw_below_drewN) | ((with_reducible refine below_set ?_ ?_); rotate_left; (first | omega | (simp; done) | (simp; omega)))))⟩
end Go.Proofs.Ytgdfehacijafhaa
