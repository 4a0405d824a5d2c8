/- Apply: the writes of a list of cycles, made in a memory. -/
import Derived.Test.YtbkdalbmbegpdaaFill
import Derived.Test.YtbkdalbmbegpdaaCyc
set_option linter.unusedVariables false
set_option linter.unusedSimpArgs false
namespace Go.Proofs.Ytbkdalbmbegpdaa
open Go.RowKit Go.Proofs.YtbkdalbmbegpdaaW.PrintWords
def cd (l : List Cyc) (k : Nat) : Cyc := l.getD k ⟨0, 0, false⟩
structure Cs (w : World) (A : Option Addr) (l : List Cyc) : Prop where
  c : cycK.C w A l.length l
  b : ∀ k, (cd l k).ok
theorem Cs.below {w w1 : World} {A : Option Addr} {l : List Cyc} (h : Cs w A l) (hb : Below w.heap.size w w1) : Cs w1 A l := ⟨Kd.C_below h.c hb, h.b⟩
theorem OwnC.cs {w : World} {base : Nat} {A : Option Addr} {c : Nat} {l : List Cyc} (h : OwnC w base (.slice A l.length c) l) (hb : ∀ k, (cd l k).ok) : Cs w A l := ⟨(Kd.R_reads' h).2.2, hb⟩
theorem Cs.max {w : World} {A : Option Addr} {l : List Cyc} (h : Cs w A l) : l.length ≤ 9223372036854775807 := Kd.C_max h.c
theorem OwnC.row {w : World} {base : Nat} {v : Value} {l : List Cyc} (h : OwnC w base v l) : ∀ k, v.ownBlock = some k → base ≤ k ∧ k < w.heap.size := fun k e => ⟨Kd.R_base h k e, Kd.R_lt h k e⟩
theorem OwnC.away {w0 w w1 : World} {base lo hi : Nat} {v : Value} {l : List Cyc} {row : Option Nat} (h0 : OwnC w0 base v l) (hb : Below w0.heap.size w0 w) (hg : w.grownBy w1 row)
    (hr : ∀ k, row = some k → lo ≤ k ∧ k < hi) (hd : w0.heap.size ≤ lo ∨ hi ≤ base) : OwnC w1 base v l :=
  Kd.R_mono (Kd.R_grown (Kd.R_below (Kd.R_bound h0) hb) hg (fun k hk e => by have h1 := hk.2.1; have h2 := hk.2.2.1; have h3 := hr k e.symm; omega)) (fun _ _ => trivial)
theorem OwnC.below {w w1 : World} {base : Nat} {v : Value} {l : List Cyc} (h : OwnC w base v l) (hb : Below w.heap.size w w1) : OwnC w1 base v l := Kd.R_below h hb
def applyN (cs : List Cyc) (l : List Int) : Nat → List Int
  | 0 => l
  | k + 1 => if (cd cs k).w then (applyN cs l k).set ((cd cs k).a % l.length).toNat (cd cs k).d else applyN cs l k
def apply (l : List Int) (cs : List Cyc) : List Int := if ramSize l.length then applyN cs l cs.length else []
theorem applyN_len (cs : List Cyc) (l : List Int) (k : Nat) : (applyN cs l k).length = l.length := by
  induction k with
  | zero => rfl
  | succ k ih =>
    unfold applyN
    split
    · rw [List.length_set, ih]
    · exact ih
theorem applyN_on (cs : List Cyc) (l : List Int) (k : Nat) (h : (cd cs k).w = true) : applyN cs l (k + 1) = (applyN cs l k).set ((cd cs k).a % l.length).toNat (cd cs k).d := by rw [applyN, if_pos h]
theorem applyN_off (cs : List Cyc) (l : List Int) (k : Nat) (h : (cd cs k).w = false) : applyN cs l (k + 1) = applyN cs l k := by rw [applyN, if_neg (by simp [h])]
theorem set_rd {l : List Int} {n : Nat} {x : Int} (hl : ∀ i, 0 ≤ rd l i ∧ rd l i < 256) (h0 : 0 ≤ x) (h1 : x < 256) (i : Int) : 0 ≤ rd (l.set n x) i ∧ rd (l.set n x) i < 256 := by
  have ih := hl i
  unfold rd at *
  rw [List.getD_eq_getElem?_getD, List.getElem?_set]
  split
  · split
    · simpa using ⟨h0, h1⟩
    · simp
  · rw [← List.getD_eq_getElem?_getD]; exact ih
theorem applyN_rd (cs : List Cyc) (l : List Int) (hl : ∀ i, 0 ≤ rd l i ∧ rd l i < 256) (hb : ∀ k, (cd cs k).ok) (k : Nat) : ∀ i, 0 ≤ rd (applyN cs l k) i ∧ rd (applyN cs l k) i < 256 := by
  induction k with
  | zero => exact hl
  | succ k ih =>
    intro i
    unfold applyN
    split
    · exact set_rd ih (hb k).2.2.1 (hb k).2.2.2 i
    · exact ih i
theorem apply_rd (l : List Int) (cs : List Cyc) (hl : ∀ i, 0 ≤ rd l i ∧ rd l i < 256) (hb : ∀ k, (cd cs k).ok) (i : Int) : 0 ≤ rd (apply l cs) i ∧ rd (apply l cs) i < 256 := by
  unfold apply
  split
  · exact applyN_rd cs l hl hb _ i
  · simp [rd]
theorem apply_le (l : List Int) (cs : List Cyc) : (apply l cs).length ≤ l.length := by
  unfold apply
  split
  · rw [applyN_len]; exact Nat.le_refl _
  · simp
set_option maxRecDepth 20000 in
set_option maxHeartbeats 400000 in
theorem impl_Apply (A : Option Addr) (c : Nat) (l : List Int) (B : Option Addr) (d : Nat) (m : List Cyc) (w : World) (h : Bs w A l) (h2 : Cs w B m) :
    Calls Try.prog 15 #[.agg #[.slice A l.length c], .slice B m.length d] w fun e w' => ∃ A1 c1, e = .returned (.agg #[.slice A1 (apply l m).length c1]) ∧ OwnB w' w.heap.size (.slice A1 (apply l m).length c1) (apply l m) ∧ Below w.heap.size w w' := by
  have hm := h2.max
  obtain ⟨b, hb⟩ : ∃ b, ramSize l.length = b := ⟨_, rfl⟩
  cases b
  · have e : apply l m = [] := by simp [apply, hb]
    rw [e]
    have HB := Aside0.mk (Below.refl w.heap.size w); go_enter Try.func15, Try.ntmps15
    go_wp2_with fail
    refine (impl_RamOk _ _ _ _).mono ?_
    rintro _ w1 ⟨rfl, hb⟩
    (have HB := Aside0.mk (below_step (w := w) (by (repeat (first | (with_reducible exact Below.refl _ _) | (with_reducible assumption) | ((with_reducible apply Aside0.out); with_reducible assumption) | (with_reducible apply below_alloc) | (with_reducible apply below_drew1) | (with_reducible apply pw_below_drewN) | ((with_reducible refine below_set ?_ ?_); rotate_left; (first | omega | (simp; done) | (simp; omega)))))) hb); have hz1 := hb.size; obtain ⟨hcl1, hfr1, hlt1, _⟩ := bcell hb; (try simp only [World.size_alloc, World.size_setCell, World.size_drew] at hz1); (try simp only [World.size_alloc, World.size_setCell, World.size_drew] at hcl1 hfr1 hlt1); have hk1_0 : w.heap.size < w1.heap.size := (by omega); have hk1_1 : w.heap.size + 1 < w1.heap.size := (by omega); have HB1 := Aside0.mk (Below.refl w1.heap.size w1); clear hb)
    go_wp2_with fail
    (refine bodyPost_ret (v := .agg #[.slice none 0 0]) (by (simp only [results, Try.results15]; go_simp <;> (rfl))) rfl ?_)
    exact ⟨none, 0, rfl, Kd.R_nil _ _ _ _ _, by (repeat (first | (with_reducible exact Below.refl _ _) | (with_reducible assumption) | ((with_reducible apply Aside0.out); with_reducible assumption) | (with_reducible apply below_alloc) | (with_reducible apply below_drew1) | (with_reducible apply pw_below_drewN) | ((with_reducible refine below_set ?_ ?_); rotate_left; (first | omega | (simp; done) | (simp; omega)))))⟩
  · have hs := ramSize_le hb
    have e : apply l m = applyN m l m.length := by simp [apply, hb]
    rw [e, applyN_len]
    have HB := Aside0.mk (Below.refl w.heap.size w); go_enter Try.func15, Try.ntmps15
    go_wp2_with fail
    refine (impl_RamOk _ _ _ _).mono ?_
    rintro _ w1 ⟨rfl, hb⟩
    (have HB := Aside0.mk (below_step (w := w) (by (repeat (first | (with_reducible exact Below.refl _ _) | (with_reducible assumption) | ((with_reducible apply Aside0.out); with_reducible assumption) | (with_reducible apply below_alloc) | (with_reducible apply below_drew1) | (with_reducible apply pw_below_drewN) | ((with_reducible refine below_set ?_ ?_); rotate_left; (first | omega | (simp; done) | (simp; omega)))))) hb); have hz1 := hb.size; obtain ⟨hcl1, hfr1, hlt1, _⟩ := bcell hb; (try simp only [World.size_alloc, World.size_setCell, World.size_drew] at hz1); (try simp only [World.size_alloc, World.size_setCell, World.size_drew] at hcl1 hfr1 hlt1); have hk1_0 : w.heap.size < w1.heap.size := (by omega); have hk1_1 : w.heap.size + 1 < w1.heap.size := (by omega); have HB1 := Aside0.mk (Below.refl w1.heap.size w1); clear hb)
    go_wp2_with fail
    refine (impl_cloned _ _ _ _ (h.below (by (repeat (first | (with_reducible exact Below.refl _ _) | (with_reducible assumption) | ((with_reducible apply Aside0.out); with_reducible assumption) | (with_reducible apply below_alloc) | (with_reducible apply below_drew1) | (with_reducible apply pw_below_drewN) | ((with_reducible refine below_set ?_ ?_); rotate_left; (first | omega | (simp; done) | (simp; omega))))))) (by omega)).mono ?_
    rintro _ w2 ⟨A1, c1, rfl, HO, hb⟩
    (have HB := Aside0.mk (below_step (w := w) (by (repeat (first | (with_reducible exact Below.refl _ _) | (with_reducible assumption) | ((with_reducible apply Aside0.out); with_reducible assumption) | (with_reducible apply below_alloc) | (with_reducible apply below_drew1) | (with_reducible apply pw_below_drewN) | ((with_reducible refine below_set ?_ ?_); rotate_left; (first | omega | (simp; done) | (simp; omega)))))) hb); have HB1 := Aside0.mk (below_step (w := w1) (by (repeat (first | (with_reducible exact Below.refl _ _) | (with_reducible assumption) | ((with_reducible apply Aside0.out); with_reducible assumption) | (with_reducible apply below_alloc) | (with_reducible apply below_drew1) | (with_reducible apply pw_below_drewN) | ((with_reducible refine below_set ?_ ?_); rotate_left; (first | omega | (simp; done) | (simp; omega)))))) hb); have hz2 := hb.size; obtain ⟨hcl2, hfr2, hlt2, _⟩ := bcell hb; (try simp only [World.size_alloc, World.size_setCell, World.size_drew] at hz2); (try simp only [World.size_alloc, World.size_setCell, World.size_drew] at hcl2 hfr2 hlt2); have hk2_0 : w.heap.size < w2.heap.size := (by omega); have hk2_1 : w.heap.size + 1 < w2.heap.size := (by omega); have HB2 := Aside0.mk (Below.refl w2.heap.size w2); clear hb)
    have HO2 := Aside0.mk HO; clear HO
    have HO := HO2
    go_wp2_with fail
    go_loopw [16] (fun v wr => ∃ k : Nat, k ≤ m.length ∧ v = .int .i64 k ∧ Aside0 (OwnB wr w1.heap.size (.slice A1 l.length c1) (applyN m l k)) ∧ Aside0 (Below w.heap.size w wr) ∧ Aside0 (w2.heap.size < wr.heap.size) ∧ wr.cell? ⟨w2.heap.size, 0, none⟩ = some (.slice A1 l.length c1) ∧ wr.cell? ⟨w.heap.size + 1, 0, none⟩ = some (.slice none 0 0) ∧ wr.frozen? ⟨w.heap.size + 1, 0, none⟩ = false) (fun v _ => m.length - (intOf v).toNat)
    case atStart => exact ⟨0, Nat.zero_le _, rfl, ⟨HO.out.alloc _⟩, ⟨by (repeat (first | (with_reducible exact Below.refl _ _) | (with_reducible assumption) | ((with_reducible apply Aside0.out); with_reducible assumption) | (with_reducible apply below_alloc) | (with_reducible apply below_drew1) | (with_reducible apply pw_below_drewN) | ((with_reducible refine below_set ?_ ?_); rotate_left; (first | omega | (simp; done) | (simp; omega)))))⟩, ⟨by simp⟩, by go_simp, by go_simp, by go_simp⟩
    case round =>
      obtain ⟨k, hk, rfl, HO, HB, HZ, r1, r2, r3⟩ := hrel
      by_cases hlt : k < m.length
      · obtain ⟨x, ex⟩ : ∃ x, cd m k = x := ⟨_, rfl⟩
        have hok := h2.b k
        rw [ex] at hok
        obtain ⟨ok0, ok1, ok2, ok3⟩ := hok
        obtain ⟨ad, rfl, hx, hy, hv⟩ := cyc_at h2.c k (by omega) (by omega) ⟨0, 0, false⟩
        rw [Int.toNat_natCast, show m.getD k ⟨0, 0, false⟩ = x from ex] at hx hy hv
        have P1 := (HB.out.cell (World.block_lt_of_cell? w _ hx)).trans hx
        have P2 := (HB.out.cell (World.block_lt_of_cell? w _ hy)).trans hy
        have P3 := (HB.out.cell (World.block_lt_of_cell? w _ hv)).trans hv
        rw [add_next] at P2 P3
        have hzb := HB.out.size
        have hz := HZ.out
        have hw1 : w.heap.size + 1 < wr.heap.size := by omega
        clear hx hy hv
        by_cases hon : x.w = true
        · rw [hon] at P3
          have hl3 : (applyN m l k).length = l.length := applyN_len _ _ _
          obtain ⟨g, cap, eo, gb, gl, cl, HC⟩ := Kd.R_form HO.out (by omega)
          rw [hl3] at eo
          injection eo with ea en ec
          subst ea ec
          have q0 : 0 ≤ x.a % l.length := Int.emod_nonneg _ (by omega)
          have q1 : x.a % l.length < l.length := Int.emod_lt_of_pos _ (by omega)
          obtain ⟨hy, hf⟩ := Kd.R_celln 0 HO.out (x.a % l.length) q0 q1
          clear HC en
          have hg2 : g < w2.heap.size := Kd.R_lt HO2.out g (by simp [Value.ownBlock])
          have hg3 : ¬ g = w2.heap.size := by omega
          have hg4 : ¬ w2.heap.size = g := by omega
          have hg5 : ¬ w.heap.size + 1 = g := by omega
          have hg6 : ¬ g = w.heap.size + 1 := by omega
          have hg7 : ¬ wr.heap.size = g := by omega
          have hg8 : ¬ g = wr.heap.size := by omega
          have hb1 : w2.heap.size < wr.heap.size + 1 := by omega
          have hb2 : w.heap.size + 1 < wr.heap.size + 1 := by omega
          have hb3 : w.heap.size < wr.heap.size := by omega
          have hb4 : w2.heap.size ≤ wr.heap.size := by omega
          go_upto_region 8 with (fail)
          go_region_held3 (fun w' => Below w.heap.size w w' ∧ w'.cell? ⟨w2.heap.size, 0, none⟩ = some (.slice (some ⟨g, 0, none⟩) l.length c1) ∧ w'.cell? ⟨wr.heap.size, 0, none⟩ = some (.int .u16 x.a) ∧ w'.cell? ⟨wr.heap.size, 1, none⟩ = some (.int .u8 x.d)) (first | (go_keep; done) | (go_split_ands; (repeat' apply And.intro) <;> (first | (with_reducible assumption) | (go_simp; done) | (refine cell_keep ?_ (by assumption); (repeat (first | (with_reducible exact Below.refl _ _) | (with_reducible assumption) | ((with_reducible apply Aside0.out); with_reducible assumption) | (with_reducible apply below_alloc) | (with_reducible apply below_drew1) | (with_reducible apply pw_below_drewN) | ((with_reducible refine below_set ?_ ?_); rotate_left; (first | omega | (simp; done) | (simp; omega))))); done) | (repeat (first | (with_reducible exact Below.refl _ _) | (with_reducible assumption) | ((with_reducible apply Aside0.out); with_reducible assumption) | (with_reducible apply below_alloc) | (with_reducible apply below_drew1) | (with_reducible apply pw_below_drewN) | ((with_reducible refine below_set ?_ ?_); rotate_left; (first | omega | (simp; done) | (simp; omega)))))))) (first | (go_at_call 59; ((with_reducible refine (impl_at _ _ _ _ _ (by omega) (by omega) (by omega) (by omega)).mono ?_); rintro _ w3 ⟨rfl, hb⟩; have HO3 := Aside0.mk ((HO.out.alloc _).drew.below hb); have HX := Aside0.mk (bcell hb); have HB := Aside0.mk (below_step (w := w) (by (repeat (first | (with_reducible exact Below.refl _ _) | (with_reducible assumption) | ((with_reducible apply Aside0.out); with_reducible assumption) | (with_reducible apply below_alloc) | (with_reducible apply below_drew1) | (with_reducible apply pw_below_drewN) | ((with_reducible refine below_set ?_ ?_); rotate_left; (first | omega | (simp; done) | (simp; omega)))))) hb); have hz3 := hb.size; obtain ⟨hcl3, hfr3, hlt3, _⟩ := bcell hb; (try simp only [World.size_alloc, World.size_setCell, World.size_drew] at hz3); (try simp only [World.size_alloc, World.size_setCell, World.size_drew] at hcl3 hfr3 hlt3); have hk3_0 : w2.heap.size < w3.heap.size := (by omega); have hk3_1 : w.heap.size + 1 < w3.heap.size := (by omega); have HB3 := Aside0.mk (Below.refl w3.heap.size w3); clear hb)))
          go_wp2
          exact ⟨⟨k + 1, by omega, by go_num, ⟨by rw [applyN_on m l k (by rw [ex]; exact hon), ex]; exact (Kd.R_putg HO3.out (x.a % l.length) x.d).1⟩, ⟨by (repeat (first | (with_reducible exact Below.refl _ _) | (with_reducible assumption) | ((with_reducible apply Aside0.out); with_reducible assumption) | (with_reducible apply below_alloc) | (with_reducible apply below_drew1) | (with_reducible apply pw_below_drewN) | ((with_reducible refine below_set ?_ ?_); rotate_left; (first | omega | (simp; done) | (simp; omega)))))⟩, ⟨by simp; omega⟩, by go_simp, by go_simp, by go_simp⟩, by simp [intOf]; omega⟩
        · have hon : x.w = false := by cases e : x.w <;> simp_all
          rw [hon] at P3
          have hw2 : ¬ wr.heap.size = w2.heap.size := by omega
          go_wp2
          exact ⟨⟨k + 1, by omega, by go_num, ⟨by rw [applyN_off m l k (by rw [ex]; exact hon)]; exact HO.out.alloc _⟩, ⟨by (repeat (first | (with_reducible exact Below.refl _ _) | (with_reducible assumption) | ((with_reducible apply Aside0.out); with_reducible assumption) | (with_reducible apply below_alloc) | (with_reducible apply below_drew1) | (with_reducible apply pw_below_drewN) | ((with_reducible refine below_set ?_ ?_); rotate_left; (first | omega | (simp; done) | (simp; omega)))))⟩, ⟨by simp; omega⟩, by go_simp, by go_simp, by go_simp⟩, by simp [intOf]; omega⟩
      · have ek : k = m.length := by omega
        subst ek
        have hz := HZ.out
        have hzb := HB.out.size
        have hw1 : w.heap.size + 1 < wr.heap.size := by omega
        go_wp2
        (refine bodyPost_ret (v := .agg #[.slice A1 l.length c1]) (by (simp only [results, Try.results15]; go_simp <;> (rfl))) rfl ?_)
        exact ⟨_, _, rfl, (by (apply OwnB.lower; (repeat (first | (with_reducible exact HO.out) | (with_reducible apply OwnB.alloc) | (with_reducible apply OwnB.drew) | (with_reducible apply OwnB.drewN) | (with_reducible apply OwnB.set))); all_goals (first | omega | (simp; done) | (simp; omega)))), by (repeat (first | (with_reducible exact Below.refl _ _) | (with_reducible assumption) | ((with_reducible apply Aside0.out); with_reducible assumption) | (with_reducible apply below_alloc) | (with_reducible apply below_drew1) | (with_reducible apply pw_below_drewN) | ((with_reducible refine below_set ?_ ?_); rotate_left; (first | omega | (simp; done) | (simp; omega)))))⟩
set_option maxRecDepth 20000 in
set_option maxHeartbeats 400000 in
theorem spec_Apply (A : Option Addr) (c : Nat) (l : List Int) (B : Option Addr) (d : Nat) (m : List Cyc) (w : World) (h : Bs w A l) (h2 : Cs w B m) :
    Calls Try.prog 12 #[.agg #[.slice A l.length c], .slice B m.length d] w fun e w' => ∃ A1 c1, e = .returned (.agg #[.slice A1 (apply l m).length c1]) ∧ OwnB w' w.heap.size (.slice A1 (apply l m).length c1) (apply l m) ∧ Below w.heap.size w w' := by
  have hm := h2.max
  obtain ⟨b, hb⟩ : ∃ b, ramSize l.length = b := ⟨_, rfl⟩
  cases b
  · have e : apply l m = [] := by simp [apply, hb]
    rw [e]
    have HB := Aside0.mk (Below.refl w.heap.size w); go_enter Try.func12, Try.ntmps12
    go_wp2_with fail
    refine (spec_RamOk _ _ _ _).mono ?_
    rintro _ w1 ⟨rfl, hb⟩
    (have HB := Aside0.mk (below_step (w := w) (by (repeat (first | (with_reducible exact Below.refl _ _) | (with_reducible assumption) | ((with_reducible apply Aside0.out); with_reducible assumption) | (with_reducible apply below_alloc) | (with_reducible apply below_drew1) | (with_reducible apply pw_below_drewN) | ((with_reducible refine below_set ?_ ?_); rotate_left; (first | omega | (simp; done) | (simp; omega)))))) hb); have hz1 := hb.size; obtain ⟨hcl1, hfr1, hlt1, _⟩ := bcell hb; (try simp only [World.size_alloc, World.size_setCell, World.size_drew] at hz1); (try simp only [World.size_alloc, World.size_setCell, World.size_drew] at hcl1 hfr1 hlt1); have hk1_0 : w.heap.size < w1.heap.size := (by omega); have hk1_1 : w.heap.size + 1 < w1.heap.size := (by omega); have HB1 := Aside0.mk (Below.refl w1.heap.size w1); clear hb)
    go_wp2_with fail
    (refine bodyPost_ret (v := .agg #[.slice none 0 0]) (by (simp only [results, Try.results12]; go_simp <;> (rfl))) rfl ?_)
    exact ⟨none, 0, rfl, Kd.R_nil _ _ _ _ _, by (repeat (first | (with_reducible exact Below.refl _ _) | (with_reducible assumption) | ((with_reducible apply Aside0.out); with_reducible assumption) | (with_reducible apply below_alloc) | (with_reducible apply below_drew1) | (with_reducible apply pw_below_drewN) | ((with_reducible refine below_set ?_ ?_); rotate_left; (first | omega | (simp; done) | (simp; omega)))))⟩
  · have hs := ramSize_le hb
    have hn : ¬ l = [] := fun h => by subst h; simp at hs
    have e : apply l m = applyN m l m.length := by simp [apply, hb]
    rw [e, applyN_len]
    have HB := Aside0.mk (Below.refl w.heap.size w); go_enter Try.func12, Try.ntmps12
    go_wp2_with fail
    refine (spec_RamOk _ _ _ _).mono ?_
    rintro _ w1 ⟨rfl, hb⟩
    (have HB := Aside0.mk (below_step (w := w) (by (repeat (first | (with_reducible exact Below.refl _ _) | (with_reducible assumption) | ((with_reducible apply Aside0.out); with_reducible assumption) | (with_reducible apply below_alloc) | (with_reducible apply below_drew1) | (with_reducible apply pw_below_drewN) | ((with_reducible refine below_set ?_ ?_); rotate_left; (first | omega | (simp; done) | (simp; omega)))))) hb); have hz1 := hb.size; obtain ⟨hcl1, hfr1, hlt1, _⟩ := bcell hb; (try simp only [World.size_alloc, World.size_setCell, World.size_drew] at hz1); (try simp only [World.size_alloc, World.size_setCell, World.size_drew] at hcl1 hfr1 hlt1); have hk1_0 : w.heap.size < w1.heap.size := (by omega); have hk1_1 : w.heap.size + 1 < w1.heap.size := (by omega); have HB1 := Aside0.mk (Below.refl w1.heap.size w1); clear hb)
    go_wp2_with (first | ((with_reducible refine gate_dst (N := 11) rfl ?_); refine Kd.R_lit (Kd.int .u8) w1.heap.size 5 ?hg (N := 11) ?hd (xs := ([] : List Int)) (inner := []) (ok := fun _ => True) (okp := fun _ => True) ?hr ?hp (fun _ hk => hk) trivial (Below.refl _ _) (Nat.le_refl _) (by simp) ?_; (case hd => rfl); (case hg => rfl); (case hr => first | (go_simp; done) | (go_simp; rfl)); (case hp => exact (Reps.none _ _)); intro v1 w2 ho hb hg1 hn1; have HA := Aside0.mk ho; clear ho hg1 hn1; have HB := Aside0.mk (below_step (w := w) (by (repeat (first | (with_reducible exact Below.refl _ _) | (with_reducible assumption) | ((with_reducible apply Aside0.out); with_reducible assumption) | (with_reducible apply below_alloc) | (with_reducible apply below_drew1) | (with_reducible apply pw_below_drewN) | ((with_reducible refine below_set ?_ ?_); rotate_left; (first | omega | (simp; done) | (simp; omega)))))) hb); have hz2 := hb.size; obtain ⟨hcl2, hfr2, hlt2, _⟩ := bcell hb; (try simp only [World.size_alloc, World.size_setCell, World.size_drew] at hz2); (try simp only [World.size_alloc, World.size_setCell, World.size_drew] at hcl2 hfr2 hlt2); have hk2_0 : w.heap.size < w2.heap.size := (by omega); have hk2_1 : w.heap.size + 1 < w2.heap.size := (by omega); have HB2 := Aside0.mk (Below.refl w2.heap.size w2); clear hb) | (at_builtin; refine Kd.R_append_row (Value.int .u8) (0 : Int) (h1 := fun _ => rfl) w1.heap.size rfl _ _ 22 5 (.int .u8 0) 1 rfl Try.underlying22 infoU8 rfl (by decide) _ [] l _ _ _ (fun _ => True) rfl rfl (fun _ _ => trivial) ?a1 ?a2 (Below.refl _ _) ?a3 ?a4 ?_; (case a1 => exact HA.out); (case a2 => exact (Kd.C_below h.c HB.out)); (case a3 => omega); (case a4 => simp; omega); intro v2 w3 ho2 hb2 hg2 hat2; have HB := Aside0.mk (HB.out.trans (hb2.mono (B' := w.heap.size) (by omega))); have hcl3 := fun (p : Addr) (h : p.block < w1.heap.size) => hb2.cell h; have hfr3 := fun (p : Addr) (h : p.block < w1.heap.size) => hb2.frozen h; have hz3 := hb2.size; have hk3 : w.heap.size < w3.heap.size := (by omega); have hk4 : w.heap.size + 1 < w3.heap.size := (by omega); have HO := Aside0.mk ho2; clear ho2 hb2 hg2 hat2))
    have HO := HO.out
    simp only [List.nil_append] at HO
    obtain ⟨A1, c1, e1, _, _⟩ := Kd.R_reads HO
    subst e1
    have HO3 := Aside0.mk HO
    clear HO
    go_wp2
    go_loopw [6] (fun v wr => ∃ k : Nat, k ≤ m.length ∧ v = .int .i64 k ∧ Aside0 (OwnB wr w1.heap.size (.slice A1 l.length c1) (applyN m l k)) ∧ Aside0 (Below w.heap.size w wr) ∧ wr.cell? ⟨w.heap.size + 1, 0, none⟩ = some (.slice none 0 0) ∧ wr.frozen? ⟨w.heap.size + 1, 0, none⟩ = false) (fun v _ => m.length - (intOf v).toNat)
    case atStart => exact ⟨0, Nat.zero_le _, rfl, ⟨HO3.out⟩, ⟨by (repeat (first | (with_reducible exact Below.refl _ _) | (with_reducible assumption) | ((with_reducible apply Aside0.out); with_reducible assumption) | (with_reducible apply below_alloc) | (with_reducible apply below_drew1) | (with_reducible apply pw_below_drewN) | ((with_reducible refine below_set ?_ ?_); rotate_left; (first | omega | (simp; done) | (simp; omega)))))⟩, by go_simp, by go_simp⟩
    case round =>
      obtain ⟨k, hk, rfl, HO, HB, r2, r3⟩ := hrel
      by_cases hlt : k < m.length
      · obtain ⟨x, ex⟩ : ∃ x, cd m k = x := ⟨_, rfl⟩
        have hok := h2.b k
        rw [ex] at hok
        obtain ⟨ok0, ok1, ok2, ok3⟩ := hok
        obtain ⟨ad, rfl, hx, hy, hv⟩ := cyc_at h2.c k (by omega) (by omega) ⟨0, 0, false⟩
        rw [Int.toNat_natCast, show m.getD k ⟨0, 0, false⟩ = x from ex] at hx hy hv
        have P1 := (HB.out.cell (World.block_lt_of_cell? w _ hx)).trans hx
        have P2 := (HB.out.cell (World.block_lt_of_cell? w _ hy)).trans hy
        have P3 := (HB.out.cell (World.block_lt_of_cell? w _ hv)).trans hv
        rw [add_next] at P2 P3
        clear hx hy hv
        have k0 : (0 : Int) ≤ (k : Int) := by omega
        have k1 : (k : Int) < (m.length : Int) := by omega
        by_cases hon : x.w = true
        · rw [hon] at P3
          have hl3 : (applyN m l k).length = l.length := applyN_len _ _ _
          obtain ⟨g, cap, eo, gb, gl, cl, HC⟩ := Kd.R_form HO.out (by omega)
          rw [hl3] at eo
          injection eo with ea en ec
          subst ea ec
          have q0 : 0 ≤ x.a % l.length := Int.emod_nonneg _ (by omega)
          have q1 : x.a % l.length < l.length := Int.emod_lt_of_pos _ (by omega)
          obtain ⟨hy, hf⟩ := Kd.R_celln 0 HO.out (x.a % l.length) q0 q1
          have HP := Aside0.mk (Kd.R_putg HO.out (x.a % l.length) x.d).1
          have hzb := HB.out.size
          have hg5 : ¬ w.heap.size + 1 = g := by omega
          have hg6 : ¬ g = w.heap.size + 1 := by omega
          have GB := Aside0.mk gb
          clear HC en gb
          go_wp2
          go_region
          go_wp2
          have gb := GB.out
          exact ⟨⟨k + 1, by omega, by go_num, ⟨by rw [applyN_on m l k (by rw [ex]; exact hon), ex]; exact OwnB.drew HP.out⟩, ⟨by (repeat (first | (with_reducible exact Below.refl _ _) | (with_reducible assumption) | ((with_reducible apply Aside0.out); with_reducible assumption) | (with_reducible apply below_alloc) | (with_reducible apply below_drew1) | (with_reducible apply pw_below_drewN) | ((with_reducible refine below_set ?_ ?_); rotate_left; (first | omega | (simp; done) | (simp; omega)))))⟩, by go_simp, by go_simp⟩, by simp [intOf]; omega⟩
        · have hon : x.w = false := by cases e : x.w <;> simp_all
          rw [hon] at P3
          go_wp2
          exact ⟨⟨k + 1, by omega, by go_num, ⟨by rw [applyN_off m l k (by rw [ex]; exact hon)]; exact HO.out⟩, ⟨by (repeat (first | (with_reducible exact Below.refl _ _) | (with_reducible assumption) | ((with_reducible apply Aside0.out); with_reducible assumption) | (with_reducible apply below_alloc) | (with_reducible apply below_drew1) | (with_reducible apply pw_below_drewN) | ((with_reducible refine below_set ?_ ?_); rotate_left; (first | omega | (simp; done) | (simp; omega)))))⟩, by go_simp, by go_simp⟩, by simp [intOf]; omega⟩
      · have ek : k = m.length := by omega
        subst ek
        have hzb := HB.out.size
        go_wp2
        (refine bodyPost_ret (v := .agg #[.slice A1 l.length c1]) (by (simp only [results, Try.results12]; go_simp <;> (rfl))) rfl ?_)
        exact ⟨_, _, rfl, (by (apply OwnB.lower; (repeat (first | (with_reducible exact HO.out) | (with_reducible apply OwnB.alloc) | (with_reducible apply OwnB.drew) | (with_reducible apply OwnB.drewN) | (with_reducible apply OwnB.set))); all_goals (first | omega | (simp; done) | (simp; omega)))), by (repeat (first | (with_reducible exact Below.refl _ _) | (with_reducible assumption) | ((with_reducible apply Aside0.out); with_reducible assumption) | (with_reducible apply below_alloc) | (with_reducible apply below_drew1) | (with_reducible apply pw_below_drewN) | ((with_reducible refine below_set ?_ ?_); rotate_left; (first | omega | (simp; done) | (simp; omega)))))⟩
end Go.Proofs.Ytbkdalbmbegpdaa
