/- FnRam: a byte poked is the byte peeked, at every address of the same place; all others stay. For every input. -/
import Derived.Test.YtgdfehacijafhaaDraw5
import Derived.Test.YtgdfehacijafhaaRam
set_option linter.unusedVariables false
set_option linter.unusedSimpArgs false
namespace Go.Proofs.Ytgdfehacijafhaa
open Go.RowKit Go.Proofs.YtgdfehacijafhaaW.PrintWords
theorem fill_one (L : List Int) (a x : Int) (h : ramSize L.length = true) (a0 : 0 ≤ a) (a1 : a < 65536) : fill L a [x] = L.set (a % L.length).toNat x := by
  rw [fill, h, if_pos (by simp)]
  show (L.set ((a + (0 : Nat)) % 65536 % L.length).toNat (rd [x] (0 : Nat))) = _
  rw [show (a + ((0 : Nat) : Int)) % 65536 = a from by omega]
  rfl
theorem rd_set (L : List Int) (x j : Int) (h0 : 0 ≤ j) (h1 : j < L.length) : rd (L.set j.toNat x) j = x := by
  rw [rd, List.getD_eq_getElem?_getD, List.getElem?_set_self (by omega)]
  rfl
theorem rd_set_ne (L : List Int) (x j i : Int) (h0 : 0 ≤ j) (i0 : 0 ≤ i) (h : ¬ i = j) : rd (L.set j.toNat x) i = rd L i := by
  rw [rd, rd, List.getD_eq_getElem?_getD, List.getD_eq_getElem?_getD, List.getElem?_set_ne (by omega)]
theorem mod_ram (n a : Int) (h : ramSize n = true) : (a + n) % 65536 % n = a % n ∧ a % 65536 % n = a % n := by
  simp [ramSize] at h
  rcases h with (((rfl | rfl) | rfl) | rfl) | rfl <;> omega
theorem peek_fill (L : List Int) (a x y : Int) (h : ramSize L.length = true) (a0 : 0 ≤ a) (a1 : a < 65536) (hy : y % L.length = a % L.length) : peek (fill L a [x]) y = x := by
  have hp := ramSize_le h
  rw [fill_one L a x h a0 a1, peek, List.length_set, h, if_pos rfl, hy]
  exact rd_set L x _ (Int.emod_nonneg _ (by omega)) (Int.emod_lt_of_pos _ (by omega))
set_option maxRecDepth 20000 in
set_option maxHeartbeats 2000000 in
theorem FnRam_walk (A : Option Addr) (c : Nat) (l : List Int) (w : World) (h : Bs w A l) (hl : l.length ≤ 9223372036854775807) :
    Calls Try.prog 3 #[.slice A l.length c] w fun e w' => e = .returned (.bool true) ∧ Below w.heap.size w w' := by
  by_cases hbig : 1048576 < l.length
  · have HB := Aside0.mk (Below.refl w.heap.size w); go_enter Try.func3, Try.ntmps3
    go_wp2_with (first | (go_at_call 7; ((with_reducible refine (laws_big _ _ _ _ (by omega)).mono ?_); rintro _ _ ⟨rfl, rfl⟩)))
    go_ret
    exact ⟨rfl, by (repeat (first | (with_reducible exact Below.refl _ _) | (with_reducible assumption) | ((with_reducible apply Aside0.out); with_reducible assumption) | (with_reducible apply below_alloc) | (with_reducible apply below_drew1) | (with_reducible apply pw_below_drewN) | ((with_reducible refine below_set ?_ ?_); rotate_left; (first | omega | (simp; done) | (simp; omega)))))⟩
  have HB := Aside0.mk (Below.refl w.heap.size w); go_enter Try.func3, Try.ntmps3
  go_wp2_with (first | (go_at_call 7; ((with_reducible refine (laws_big _ _ _ _ (by omega)).mono ?_); rintro _ _ ⟨rfl, rfl⟩)))
  refine (spec_DrawPoke A c l _ (h.below (by (repeat (first | (with_reducible exact Below.refl _ _) | (with_reducible assumption) | ((with_reducible apply Aside0.out); with_reducible assumption) | (with_reducible apply below_alloc) | (with_reducible apply below_drew1) | (with_reducible apply pw_below_drewN) | ((with_reducible refine below_set ?_ ?_); rotate_left; (first | omega | (simp; done) | (simp; omega))))))) (by omega)).mono ?_
  rintro _ w1 ⟨L, A1, c1, a, x, rfl, hL, a0, a1, x0, x1, ho, hLb, hb⟩
  have BS1 := Aside0.mk (ho.bs hLb)
  (have HB := Aside0.mk (below_step (w := w) (by (repeat (first | (with_reducible exact Below.refl _ _) | (with_reducible assumption) | ((with_reducible apply Aside0.out); with_reducible assumption) | (with_reducible apply below_alloc) | (with_reducible apply below_drew1) | (with_reducible apply pw_below_drewN) | ((with_reducible refine below_set ?_ ?_); rotate_left; (first | omega | (simp; done) | (simp; omega)))))) hb); have hz1 := hb.size; obtain ⟨hcl1, hfr1, hlt1, _⟩ := bcell hb; (try simp only [World.size_alloc, World.size_setCell, World.size_drew] at hz1); (try simp only [World.size_alloc, World.size_setCell, World.size_drew] at hcl1 hfr1 hlt1); have HB1 := Aside0.mk (Below.refl w1.heap.size w1); clear hb)
  clear ho
  go_wp2_with fail
  refine (impl_Poke _ _ _ _ _ _ (BS1.out.below (by (repeat (first | (with_reducible exact Below.refl _ _) | (with_reducible assumption) | ((with_reducible apply Aside0.out); with_reducible assumption) | (with_reducible apply below_alloc) | (with_reducible apply below_drew1) | (with_reducible apply pw_below_drewN) | ((with_reducible refine below_set ?_ ?_); rotate_left; (first | omega | (simp; done) | (simp; omega))))))) a0 a1 x0 x1).mono ?_
  rintro _ w2 ⟨A2, c2, rfl, ho2, hb⟩
  (have HB := Aside0.mk (below_step (w := w) (by (repeat (first | (with_reducible exact Below.refl _ _) | (with_reducible assumption) | ((with_reducible apply Aside0.out); with_reducible assumption) | (with_reducible apply below_alloc) | (with_reducible apply below_drew1) | (with_reducible apply pw_below_drewN) | ((with_reducible refine below_set ?_ ?_); rotate_left; (first | omega | (simp; done) | (simp; omega)))))) hb); have HB1 := Aside0.mk (below_step (w := w1) (by (repeat (first | (with_reducible exact Below.refl _ _) | (with_reducible assumption) | ((with_reducible apply Aside0.out); with_reducible assumption) | (with_reducible apply below_alloc) | (with_reducible apply below_drew1) | (with_reducible apply pw_below_drewN) | ((with_reducible refine below_set ?_ ?_); rotate_left; (first | omega | (simp; done) | (simp; omega)))))) hb); have hz2 := hb.size; obtain ⟨hcl2, hfr2, hlt2, _⟩ := bcell hb; (try simp only [World.size_alloc, World.size_setCell, World.size_drew] at hz2); (try simp only [World.size_alloc, World.size_setCell, World.size_drew] at hcl2 hfr2 hlt2); have hk2_0 : w1.heap.size < w2.heap.size := (by omega); have HB2 := Aside0.mk (Below.refl w2.heap.size w2); clear hb)
  have BS2 := Aside0.mk (ho2.bs (fill_rd _ _ _ hLb (rd_one x0 x1))); clear ho2
  obtain ⟨b, hr⟩ : ∃ b, ramSize L.length = b := ⟨_, rfl⟩
  cases b
  · have hF : fill L a [x] = [] := by simp [fill, hr]
    go_wp2_with fail
    refine (spec_RamOk _ _ _ _).mono ?_
    rintro _ w3 ⟨rfl, hb⟩
    (have HB := Aside0.mk (below_step (w := w) (by (repeat (first | (with_reducible exact Below.refl _ _) | (with_reducible assumption) | ((with_reducible apply Aside0.out); with_reducible assumption) | (with_reducible apply below_alloc) | (with_reducible apply below_drew1) | (with_reducible apply pw_below_drewN) | ((with_reducible refine below_set ?_ ?_); rotate_left; (first | omega | (simp; done) | (simp; omega)))))) hb); have HB1 := Aside0.mk (below_step (w := w1) (by (repeat (first | (with_reducible exact Below.refl _ _) | (with_reducible assumption) | ((with_reducible apply Aside0.out); with_reducible assumption) | (with_reducible apply below_alloc) | (with_reducible apply below_drew1) | (with_reducible apply pw_below_drewN) | ((with_reducible refine below_set ?_ ?_); rotate_left; (first | omega | (simp; done) | (simp; omega)))))) hb); have HB2 := Aside0.mk (below_step (w := w2) (by (repeat (first | (with_reducible exact Below.refl _ _) | (with_reducible assumption) | ((with_reducible apply Aside0.out); with_reducible assumption) | (with_reducible apply below_alloc) | (with_reducible apply below_drew1) | (with_reducible apply pw_below_drewN) | ((with_reducible refine below_set ?_ ?_); rotate_left; (first | omega | (simp; done) | (simp; omega)))))) hb); have hz3 := hb.size; obtain ⟨hcl3, hfr3, hlt3, _⟩ := bcell hb; (try simp only [World.size_alloc, World.size_setCell, World.size_drew] at hz3); (try simp only [World.size_alloc, World.size_setCell, World.size_drew] at hcl3 hfr3 hlt3); have hk3_0 : w1.heap.size < w3.heap.size := (by omega); have hk3_1 : w2.heap.size < w3.heap.size := (by omega); have HB3 := Aside0.mk (Below.refl w3.heap.size w3); clear hb)
    go_wp2_with fail
    go_ret
    exact ⟨rfl, by (repeat (first | (with_reducible exact Below.refl _ _) | (with_reducible assumption) | ((with_reducible apply Aside0.out); with_reducible assumption) | (with_reducible apply below_alloc) | (with_reducible apply below_drew1) | (with_reducible apply pw_below_drewN) | ((with_reducible refine below_set ?_ ?_); rotate_left; (first | omega | (simp; done) | (simp; omega)))))⟩
  · have hp := ramSize_le hr
    have hFl := fill_ok L [x] a hr (by simp)
    have m1 := peek_fill L a x a hr a0 a1 rfl
    have m2 := peek_fill L a x ((a + L.length) % 65536) hr a0 a1 (mod_ram _ a hr).1
    have u1 : IntKind.u16.wrap (L.length : Int) = L.length := by rw [IntKind.wrap_u16]; omega
    have u2 : IntKind.u16.wrap (a + L.length) = (a + L.length) % 65536 := IntKind.wrap_u16 _
    have hset := fill_one L a x hr a0 a1
    generalize fill L a [x] = F at hFl m1 m2 hset BS2
    have hP1 := fun W b => impl_Peek A2 c2 F a W b a0 a1
    have hP2 := fun W b => impl_Peek A2 c2 F ((a + L.length) % 65536) W b (by omega) (by omega)
    simp only [hFl, m1] at hP1
    simp only [hFl, m2] at hP2
    go_wp2_with fail
    refine (spec_RamOk _ _ _ _).mono ?_
    rintro _ w3 ⟨rfl, hb⟩
    (have HB := Aside0.mk (below_step (w := w) (by (repeat (first | (with_reducible exact Below.refl _ _) | (with_reducible assumption) | ((with_reducible apply Aside0.out); with_reducible assumption) | (with_reducible apply below_alloc) | (with_reducible apply below_drew1) | (with_reducible apply pw_below_drewN) | ((with_reducible refine below_set ?_ ?_); rotate_left; (first | omega | (simp; done) | (simp; omega)))))) hb); have HB1 := Aside0.mk (below_step (w := w1) (by (repeat (first | (with_reducible exact Below.refl _ _) | (with_reducible assumption) | ((with_reducible apply Aside0.out); with_reducible assumption) | (with_reducible apply below_alloc) | (with_reducible apply below_drew1) | (with_reducible apply pw_below_drewN) | ((with_reducible refine below_set ?_ ?_); rotate_left; (first | omega | (simp; done) | (simp; omega)))))) hb); have HB2 := Aside0.mk (below_step (w := w2) (by (repeat (first | (with_reducible exact Below.refl _ _) | (with_reducible assumption) | ((with_reducible apply Aside0.out); with_reducible assumption) | (with_reducible apply below_alloc) | (with_reducible apply below_drew1) | (with_reducible apply pw_below_drewN) | ((with_reducible refine below_set ?_ ?_); rotate_left; (first | omega | (simp; done) | (simp; omega)))))) hb); have hz3 := hb.size; obtain ⟨hcl3, hfr3, hlt3, _⟩ := bcell hb; (try simp only [World.size_alloc, World.size_setCell, World.size_drew] at hz3); (try simp only [World.size_alloc, World.size_setCell, World.size_drew] at hcl3 hfr3 hlt3); have hk3_0 : w1.heap.size < w3.heap.size := (by omega); have hk3_1 : w2.heap.size < w3.heap.size := (by omega); have HB3 := Aside0.mk (Below.refl w3.heap.size w3); clear hb)
    go_wp2_with fail
    refine (hP1 _ (BS2.out.below (by (repeat (first | (with_reducible exact Below.refl _ _) | (with_reducible assumption) | ((with_reducible apply Aside0.out); with_reducible assumption) | (with_reducible apply below_alloc) | (with_reducible apply below_drew1) | (with_reducible apply pw_below_drewN) | ((with_reducible refine below_set ?_ ?_); rotate_left; (first | omega | (simp; done) | (simp; omega)))))))).mono ?_
    rintro _ w4 ⟨rfl, hb⟩
    (have HB := Aside0.mk (below_step (w := w) (by (repeat (first | (with_reducible exact Below.refl _ _) | (with_reducible assumption) | ((with_reducible apply Aside0.out); with_reducible assumption) | (with_reducible apply below_alloc) | (with_reducible apply below_drew1) | (with_reducible apply pw_below_drewN) | ((with_reducible refine below_set ?_ ?_); rotate_left; (first | omega | (simp; done) | (simp; omega)))))) hb); have HB1 := Aside0.mk (below_step (w := w1) (by (repeat (first | (with_reducible exact Below.refl _ _) | (with_reducible assumption) | ((with_reducible apply Aside0.out); with_reducible assumption) | (with_reducible apply below_alloc) | (with_reducible apply below_drew1) | (with_reducible apply pw_below_drewN) | ((with_reducible refine below_set ?_ ?_); rotate_left; (first | omega | (simp; done) | (simp; omega)))))) hb); have HB2 := Aside0.mk (below_step (w := w2) (by (repeat (first | (with_reducible exact Below.refl _ _) | (with_reducible assumption) | ((with_reducible apply Aside0.out); with_reducible assumption) | (with_reducible apply below_alloc) | (with_reducible apply below_drew1) | (with_reducible apply pw_below_drewN) | ((with_reducible refine below_set ?_ ?_); rotate_left; (first | omega | (simp; done) | (simp; omega)))))) hb); have HB3 := Aside0.mk (below_step (w := w3) (by (repeat (first | (with_reducible exact Below.refl _ _) | (with_reducible assumption) | ((with_reducible apply Aside0.out); with_reducible assumption) | (with_reducible apply below_alloc) | (with_reducible apply below_drew1) | (with_reducible apply pw_below_drewN) | ((with_reducible refine below_set ?_ ?_); rotate_left; (first | omega | (simp; done) | (simp; omega)))))) hb); have hz4 := hb.size; obtain ⟨hcl4, hfr4, hlt4, _⟩ := bcell hb; (try simp only [World.size_alloc, World.size_setCell, World.size_drew] at hz4); (try simp only [World.size_alloc, World.size_setCell, World.size_drew] at hcl4 hfr4 hlt4); have hk4_0 : w1.heap.size < w4.heap.size := (by omega); have hk4_1 : w2.heap.size < w4.heap.size := (by omega); have HB4 := Aside0.mk (Below.refl w4.heap.size w4); clear hb)
    go_wp2_with fail
    refine (hP2 _ (BS2.out.below (by (repeat (first | (with_reducible exact Below.refl _ _) | (with_reducible assumption) | ((with_reducible apply Aside0.out); with_reducible assumption) | (with_reducible apply below_alloc) | (with_reducible apply below_drew1) | (with_reducible apply pw_below_drewN) | ((with_reducible refine below_set ?_ ?_); rotate_left; (first | omega | (simp; done) | (simp; omega)))))))).mono ?_
    rintro _ w5 ⟨rfl, hb⟩
    (have HB := Aside0.mk (below_step (w := w) (by (repeat (first | (with_reducible exact Below.refl _ _) | (with_reducible assumption) | ((with_reducible apply Aside0.out); with_reducible assumption) | (with_reducible apply below_alloc) | (with_reducible apply below_drew1) | (with_reducible apply pw_below_drewN) | ((with_reducible refine below_set ?_ ?_); rotate_left; (first | omega | (simp; done) | (simp; omega)))))) hb); have HB1 := Aside0.mk (below_step (w := w1) (by (repeat (first | (with_reducible exact Below.refl _ _) | (with_reducible assumption) | ((with_reducible apply Aside0.out); with_reducible assumption) | (with_reducible apply below_alloc) | (with_reducible apply below_drew1) | (with_reducible apply pw_below_drewN) | ((with_reducible refine below_set ?_ ?_); rotate_left; (first | omega | (simp; done) | (simp; omega)))))) hb); have HB2 := Aside0.mk (below_step (w := w2) (by (repeat (first | (with_reducible exact Below.refl _ _) | (with_reducible assumption) | ((with_reducible apply Aside0.out); with_reducible assumption) | (with_reducible apply below_alloc) | (with_reducible apply below_drew1) | (with_reducible apply pw_below_drewN) | ((with_reducible refine below_set ?_ ?_); rotate_left; (first | omega | (simp; done) | (simp; omega)))))) hb); have HB3 := Aside0.mk (below_step (w := w3) (by (repeat (first | (with_reducible exact Below.refl _ _) | (with_reducible assumption) | ((with_reducible apply Aside0.out); with_reducible assumption) | (with_reducible apply below_alloc) | (with_reducible apply below_drew1) | (with_reducible apply pw_below_drewN) | ((with_reducible refine below_set ?_ ?_); rotate_left; (first | omega | (simp; done) | (simp; omega)))))) hb); have HB4 := Aside0.mk (below_step (w := w4) (by (repeat (first | (with_reducible exact Below.refl _ _) | (with_reducible assumption) | ((with_reducible apply Aside0.out); with_reducible assumption) | (with_reducible apply below_alloc) | (with_reducible apply below_drew1) | (with_reducible apply pw_below_drewN) | ((with_reducible refine below_set ?_ ?_); rotate_left; (first | omega | (simp; done) | (simp; omega)))))) hb); have hz5 := hb.size; obtain ⟨hcl5, hfr5, hlt5, _⟩ := bcell hb; (try simp only [World.size_alloc, World.size_setCell, World.size_drew] at hz5); (try simp only [World.size_alloc, World.size_setCell, World.size_drew] at hcl5 hfr5 hlt5); have hk5_0 : w1.heap.size < w5.heap.size := (by omega); have hk5_1 : w2.heap.size < w5.heap.size := (by omega); have HB5 := Aside0.mk (Below.refl w5.heap.size w5); clear hb)
    go_wp2_with fail
    have c3 : w5.cell? ⟨w1.heap.size, 0, none⟩ = some (.slice A1 L.length c1) := by go_simp
    have c6 : w5.cell? ⟨w2.heap.size, 0, none⟩ = some (.slice A2 L.length c2) := by go_simp
    have B1 : Aside0 (Bs w5 A1 L) := ⟨BS1.out.below (by (repeat (first | (with_reducible exact Below.refl _ _) | (with_reducible assumption) | ((with_reducible apply Aside0.out); with_reducible assumption) | (with_reducible apply below_alloc) | (with_reducible apply below_drew1) | (with_reducible apply pw_below_drewN) | ((with_reducible refine below_set ?_ ?_); rotate_left; (first | omega | (simp; done) | (simp; omega))))))⟩
    have B2 : Aside0 (Bs w5 A2 F) := ⟨BS2.out.below (by (repeat (first | (with_reducible exact Below.refl _ _) | (with_reducible assumption) | ((with_reducible apply Aside0.out); with_reducible assumption) | (with_reducible apply below_alloc) | (with_reducible apply below_drew1) | (with_reducible apply pw_below_drewN) | ((with_reducible refine below_set ?_ ?_); rotate_left; (first | omega | (simp; done) | (simp; omega))))))⟩
    have k1 : w1.heap.size < w5.heap.size := by omega
    have k2 : w2.heap.size < w5.heap.size := by omega
    have j0 : (0 : Int) ≤ a % L.length := Int.emod_nonneg _ (by omega)
    have hne : ¬ L = [] := fun e => by subst e; simp at hp
    clear BS1 BS2 hP1 hP2 m1 m2
    go_loopw [8] (fun v wr => ∃ i : Nat, i ≤ L.length ∧ v = .int .i64 i ∧ Aside0 (Below w5.heap.size w5 wr)) (fun v _ => L.length - (intOf v).toNat)
    case atStart => exact ⟨0, Nat.zero_le _, rfl, ⟨Below.refl _ _⟩⟩
    case round =>
      obtain ⟨i, hi, rfl, HW⟩ := hrel
      have r3 : wr.cell? ⟨w1.heap.size, 0, none⟩ = some (.slice A1 L.length c1) := (HW.out.cell k1).trans c3
      have r6 : wr.cell? ⟨w2.heap.size, 0, none⟩ = some (.slice A2 L.length c2) := (HW.out.cell k2).trans c6
      have HB := Aside0.mk (below_step HB.out HW.out)
      by_cases hlt : i < L.length
      · obtain ⟨ad, rfl, hx⟩ := B1.out.at i (by omega) (by omega)
        obtain ⟨ae, rfl, hy⟩ := B2.out.at i (by omega) (by omega)
        have hx1 := (HW.out.cell (World.block_lt_of_cell? w5 _ hx)).trans hx
        have hy1 := (HW.out.cell (World.block_lt_of_cell? w5 _ hy)).trans hy
        rw [Int.toNat_natCast] at hx1 hy1
        have q0 : (0 : Int) ≤ (i : Int) := by omega
        have q1 : (i : Int) < (L.length : Int) := by omega
        clear hx hy
        by_cases hj : (i : Int) = a % L.length
        · go_wp2
          go_quiet (fail)
          go_wp2
          exact ⟨⟨i + 1, by omega, by rw [← hj]; go_num, ⟨by (repeat (first | (with_reducible exact Below.refl _ _) | (with_reducible assumption) | ((with_reducible apply Aside0.out); with_reducible assumption) | (with_reducible apply below_alloc) | (with_reducible apply below_drew1) | (with_reducible apply pw_below_drewN) | ((with_reducible refine below_set ?_ ?_); rotate_left; (first | omega | (simp; done) | (simp; omega)))))⟩⟩, by rw [← hj]; simp [intOf]; omega⟩
        · have hv : rd F i = rd L i := by rw [hset]; exact rd_set_ne L x _ i j0 q0 hj
          rw [hv] at hy1
          have hj1 : ((i : Int) != a % (L.length : Int)) = true := bne_iff_ne.2 hj
          have hj2 : ((i : Int) == a % (L.length : Int)) = false := beq_eq_false_iff_ne.2 hj
          go_wp2
          go_quiet (fail)
          go_wp2
          go_roundw
          case rel => exact ⟨i + 1, by omega, by go_num, ⟨by (repeat (first | (with_reducible exact Below.refl _ _) | (with_reducible assumption) | ((with_reducible apply Aside0.out); with_reducible assumption) | (with_reducible apply below_alloc) | (with_reducible apply below_drew1) | (with_reducible apply pw_below_drewN) | ((with_reducible refine below_set ?_ ?_); rotate_left; (first | omega | (simp; done) | (simp; omega)))))⟩⟩
          case measure => simp [intOf]; omega
      · go_wp2
        go_ret
        exact ⟨rfl, by (repeat (first | (with_reducible exact Below.refl _ _) | (with_reducible assumption) | ((with_reducible apply Aside0.out); with_reducible assumption) | (with_reducible apply below_alloc) | (with_reducible apply below_drew1) | (with_reducible apply pw_below_drewN) | ((with_reducible refine below_set ?_ ?_); rotate_left; (first | omega | (simp; done) | (simp; omega)))))⟩
end Go.Proofs.Ytgdfehacijafhaa
