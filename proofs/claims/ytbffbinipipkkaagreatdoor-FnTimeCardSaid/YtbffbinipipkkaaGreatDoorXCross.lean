/- FnExactCrossed: whether an operation crosses a page. For every input. -/
import Derived.Test.YtbffbinipipkkaaGreatDoorGD
import Derived.Deep.RegionHeld3
set_option linter.unusedVariables false
set_option linter.unusedSimpArgs false
namespace Go.Proofs.YtbffbinipipkkaaGreatDoor
open Go.RowKit Go.Proofs.YtbffbinipipkkaaGreatDoorW.PrintWords
def pageOf (n : Int) : Int := n % 65536 / 256
def crossM (x : Cpu) (l : List Int) (m : Int) (nm : List UInt8) (z n : Int) : Bool :=
  if m == 7 then !(pageOf (word2 z n + x.X) == pageOf (word2 z n))
  else if m == 8 then !(pageOf (word2 z n + x.Y) == pageOf (word2 z n))
  else if m == 11 then !(pageOf (word2 (peek l z) (peek l ((z + 1) % 256)) + x.Y) == pageOf (word2 (peek l z) (peek l ((z + 1) % 256))))
  else if m == 12 then holds x.F nm && !(pageOf ((x.PC + 2) % 65536 + offs z) == pageOf ((x.PC + 2) % 65536))
  else false
def crossed (x : Cpu) (l : List Int) : Bool := ramSize l.length && crossM x l (mdI (peek l x.PC)) (nmL (peek l x.PC)) (peek l ((x.PC + 1) % 65536)) (peek l ((x.PC + 2) % 65536))
theorem w64w {x : Int} (h : -1000000 ≤ x ∧ x ≤ 1000000) : wrap64 x = x := by unfold wrap64; omega
theorem pageS0 {s n : Int} (hs : -1000 ≤ s ∧ s ≤ 200000) (hn : 0 ≤ n ∧ n < 65536) : (wrap64 ((bits .and .i64 s 65535).tdiv 256) != wrap64 (n.tdiv 256)) = !(pageOf s == pageOf n) := by
  have a1 : wrap64 ((s % 65536) / 256) = (s % 65536) / 256 := w64w (by omega)
  have a2 : wrap64 (n / 256) = n / 256 := w64w (by omega)
  rw [i64_and65535, Int.tdiv_eq_ediv_of_nonneg (by omega), Int.tdiv_eq_ediv_of_nonneg hn.1, a1, a2]
  unfold pageOf
  rw [show n % 65536 = n from by omega]
  rfl
theorem pageS {s n : Int} (hs : -1000 ≤ s ∧ s ≤ 200000) (hn : 0 ≤ n ∧ n < 65536) : (wrap64 ((bits .and .i64 (wrap64 s) 65535).tdiv 256) != wrap64 (n.tdiv 256)) = !(pageOf s == pageOf n) := by
  rw [show wrap64 s = s from w64w (by omega)]
  exact pageS0 hs hn
theorem pageI {s n : Int} (hn : 0 ≤ n ∧ n < 65536) : (IntKind.u16.wrap s / 256 != n / 256) = !(pageOf s == pageOf n) := by
  rw [IntKind.wrap_u16]
  unfold pageOf
  rw [show n % 65536 = n from by omega]
  rfl
theorem offs_b (b : Int) (h : 0 ≤ b ∧ b < 256) : -128 ≤ offs b ∧ offs b ≤ 128 := by unfold offs; split <;> omega
theorem word2_bb {z n : Int} (hz : 0 ≤ z ∧ z < 256) (hn : 0 ≤ n ∧ n < 256) : 0 ≤ word2 z n ∧ word2 z n < 65536 := by unfold word2; omega
set_option maxHeartbeats 4000000 in
theorem spec_Crossed (x : Cpu) (A : Option Addr) (c : Nat) (l : List Int) (w : World) (ho : x.ok) (h : Bs w A l) :
    Calls Tryz.prog 37 #[.agg #[.int .u8 x.A, .int .u8 x.X, .int .u8 x.Y, .int .u8 x.S, .int .u16 x.PC, .bool x.F.N, .bool x.F.V, .bool x.F.D, .bool x.F.I, .bool x.F.Z, .bool x.F.C], .agg #[.slice A l.length c]] w fun e w' => e = .returned (.bool (crossed x l)) ∧ Below w.heap.size w w' := by
  obtain ⟨b, hb⟩ : ∃ b, ramSize l.length = b := ⟨_, rfl⟩
  obtain ⟨a0, a1, x0, x1, y0, y1, s0, s1, p0, p1⟩ := ho
  have ho : x.ok := ⟨a0, a1, x0, x1, y0, y1, s0, s1, p0, p1⟩
  cases b
  · rw [show crossed x l = false from by simp [crossed, hb]]
    have HB := hR w; go_enter Tryz.func37, Tryz.ntmps37
    go_wp2_with fail
    refine (spec_RamOk _ _ _ _).mono ?_
    rintro _ w1 ⟨rfl, hb⟩
    (have HB := Aside0.mk (below_step (w := w) blw hb); have hz1 := hb.size; obtain ⟨hcl1, hfr1, hlt1, _⟩ := bcell hb; (try simp only [sA, sC, sD] at hz1); (try simp only [sA, sC, sD] at hcl1 hfr1 hlt1); have hk1_0 : w.heap.size < w1.heap.size := (by omega); have hk1_1 : w.heap.size + 1 < w1.heap.size := (by omega); have HB1 := hR w1; clear hb)
    go_wp2_with fail
    go_ret
    exact ⟨rfl, blw⟩
  have e1 : IntKind.u16.wrap (x.PC + 1) = (x.PC + 1) % 65536 := IntKind.wrap_u16 _
  have e2 : IntKind.u16.wrap (x.PC + 2) = (x.PC + 2) % 65536 := IntKind.wrap_u16 _
  have hp := peek_b h x.PC
  have hm := fun W => spec_ModeOf (peek l x.PC) W hp.1 hp.2
  have hn := fun W => spec_NameOf (peek l x.PC) W hp.1 hp.2
  rw [of_byte (p := fun c => mdS c = mdI c) mdSI (peek l x.PC) hp.1 hp.2] at hm
  rw [of_byte (p := fun c => nmS c = nmL c) nmSI (peek l x.PC) hp.1 hp.2] at hn
  obtain ⟨m0, m1⟩ := of_byte (p := fun c => -1 ≤ mdI c ∧ mdI c ≤ 12) mdI_b (peek l x.PC) hp.1 hp.2
  have hz := peek_b h ((x.PC + 1) % 65536)
  have hy := peek_b h ((x.PC + 2) % 65536)
  unfold crossed
  rw [hb, Bool.true_and]
  generalize mdI (peek l x.PC) = m at hm m0 m1 ⊢
  generalize nmL (peek l x.PC) = nm at hn ⊢
  by_cases q7 : m = 7
  · subst q7
    have HB := hR w; go_enter Tryz.func37, Tryz.ntmps37
    go_wp2_with fail
    refine (spec_RamOk _ _ _ _).mono ?_
    rintro _ w1 ⟨rfl, hb⟩
    (have HB := Aside0.mk (below_step (w := w) blw hb); have hz1 := hb.size; obtain ⟨hcl1, hfr1, hlt1, _⟩ := bcell hb; (try simp only [sA, sC, sD] at hz1); (try simp only [sA, sC, sD] at hcl1 hfr1 hlt1); have hk1_0 : w.heap.size < w1.heap.size := (by omega); have hk1_1 : w.heap.size + 1 < w1.heap.size := (by omega); have HB1 := hR w1; clear hb)
    go_wp2_with fail
    refine (spec_Peek _ _ _ _ _ (h.below (blw)) p0 p1).mono ?_
    rintro _ w2 ⟨rfl, hb⟩
    (have HB := Aside0.mk (below_step (w := w) blw hb); have HB1 := Aside0.mk (below_step (w := w1) blw hb); have hz2 := hb.size; obtain ⟨hcl2, hfr2, hlt2, _⟩ := bcell hb; (try simp only [sA, sC, sD] at hz2); (try simp only [sA, sC, sD] at hcl2 hfr2 hlt2); have hk2_0 : w.heap.size < w2.heap.size := (by omega); have hk2_1 : w.heap.size + 1 < w2.heap.size := (by omega); have HB2 := hR w2; clear hb)
    go_wp2_with fail
    refine (spec_Peek _ _ _ _ _ (h.below (blw)) (by omega) (by omega)).mono ?_
    rintro _ w3 ⟨rfl, hb⟩
    (have HB := Aside0.mk (below_step (w := w) blw hb); have HB1 := Aside0.mk (below_step (w := w1) blw hb); have HB2 := Aside0.mk (below_step (w := w2) blw hb); have hz3 := hb.size; obtain ⟨hcl3, hfr3, hlt3, _⟩ := bcell hb; (try simp only [sA, sC, sD] at hz3); (try simp only [sA, sC, sD] at hcl3 hfr3 hlt3); have hk3_0 : w.heap.size < w3.heap.size := (by omega); have hk3_1 : w.heap.size + 1 < w3.heap.size := (by omega); have HB3 := hR w3; clear hb)
    go_wp2_with fail
    refine (hm _).mono ?_
    rintro _ w4 ⟨rfl, hb⟩
    (have HB := Aside0.mk (below_step (w := w) blw hb); have HB1 := Aside0.mk (below_step (w := w1) blw hb); have HB2 := Aside0.mk (below_step (w := w2) blw hb); have HB3 := Aside0.mk (below_step (w := w3) blw hb); have hz4 := hb.size; obtain ⟨hcl4, hfr4, hlt4, _⟩ := bcell hb; (try simp only [sA, sC, sD] at hz4); (try simp only [sA, sC, sD] at hcl4 hfr4 hlt4); have hk4_0 : w.heap.size < w4.heap.size := (by omega); have hk4_1 : w.heap.size + 1 < w4.heap.size := (by omega); have HB4 := hR w4; clear hb)
    go_wp2_with fail
    refine (spec_Peek _ _ _ _ _ (h.below (blw)) (by omega) (by omega)).mono ?_
    rintro _ w5 ⟨rfl, hb⟩
    (have HB := Aside0.mk (below_step (w := w) blw hb); have HB1 := Aside0.mk (below_step (w := w1) blw hb); have HB2 := Aside0.mk (below_step (w := w2) blw hb); have HB3 := Aside0.mk (below_step (w := w3) blw hb); have HB4 := Aside0.mk (below_step (w := w4) blw hb); have hz5 := hb.size; obtain ⟨hcl5, hfr5, hlt5, _⟩ := bcell hb; (try simp only [sA, sC, sD] at hz5); (try simp only [sA, sC, sD] at hcl5 hfr5 hlt5); have hk5_0 : w.heap.size < w5.heap.size := (by omega); have hk5_1 : w.heap.size + 1 < w5.heap.size := (by omega); have HB5 := hR w5; clear hb)
    go_wp2_with (first | (go_at_call 88; ((with_reducible refine (spec_l04Word _ _ _ hz.1 hz.2 hy.1 hy.2).mono ?_); rintro _ _ ⟨rfl, rfl⟩)))
    go_region_held3 (fun w' => Below w.heap.size w w' ∧ w'.cell? ⟨w.heap.size, 0, none⟩ = some (.int .u8 x.A) ∧ w'.cell? ⟨w.heap.size, 1, none⟩ = some (.int .u8 x.X) ∧ w'.cell? ⟨w.heap.size, 2, none⟩ = some (.int .u8 x.Y) ∧ w'.cell? ⟨w.heap.size, 3, none⟩ = some (.int .u8 x.S) ∧ w'.cell? ⟨w.heap.size, 4, none⟩ = some (.int .u16 x.PC) ∧ w'.cell? ⟨w.heap.size, 5, none⟩ = some (.bool x.F.N) ∧ w'.cell? ⟨w.heap.size, 6, none⟩ = some (.bool x.F.V) ∧ w'.cell? ⟨w.heap.size, 7, none⟩ = some (.bool x.F.D) ∧ w'.cell? ⟨w.heap.size, 8, none⟩ = some (.bool x.F.I) ∧ w'.cell? ⟨w.heap.size, 9, none⟩ = some (.bool x.F.Z) ∧ w'.cell? ⟨w.heap.size, 10, none⟩ = some (.bool x.F.C) ∧ w'.cell? ⟨w.heap.size + 1, 0, none⟩ = some (.slice A l.length c)) (first | (go_keep; done) | (go_split_ands; (repeat' apply And.intro) <;> (first | (with_reducible assumption) | (go_simp; done) | (exact cell_keep blw (by assumption)) | exact blw))) (first | (go_at_call 68; ((with_reducible refine (hm _).mono ?_); rintro _ w6 ⟨rfl, hb⟩; have HB := Aside0.mk (below_step (w := w) blw hb); have HB5 := Aside0.mk (below_step (w := w5) blw hb); have hz6 := hb.size; obtain ⟨hcl6, hfr6, hlt6, _⟩ := bcell hb; (try simp only [sA, sC, sD] at hz6); (try simp only [sA, sC, sD] at hcl6 hfr6 hlt6); have hk6_0 : w.heap.size < w6.heap.size := (by omega); have hk6_1 : w.heap.size + 1 < w6.heap.size := (by omega); have HB6 := hR w6; clear hb)) | (go_at_call 89; ((with_reducible refine (spec_l06Index7 x _ ho).mono ?_); rintro _ w7 ⟨rfl, hb⟩; have HB := Aside0.mk (below_step (w := w) blw hb); have HB5 := Aside0.mk (below_step (w := w5) blw hb); have HB6 := Aside0.mk (below_step (w := w6) blw hb); have hz7 := hb.size; obtain ⟨hcl7, hfr7, hlt7, _⟩ := bcell hb; (try simp only [sA, sC, sD] at hz7); (try simp only [sA, sC, sD] at hcl7 hfr7 hlt7); have hk7_0 : w.heap.size < w7.heap.size := (by omega); have hk7_1 : w.heap.size + 1 < w7.heap.size := (by omega); have HB7 := hR w7; clear hb)))
    go_wp2
    go_ret
    exact ⟨ret_of (congrArg Value.bool (pageS (by have := word2_bb hz hy; omega) (word2_bb hz hy))), blw⟩
  by_cases q8 : m = 8
  · subst q8
    have HB := hR w; go_enter Tryz.func37, Tryz.ntmps37
    go_wp2_with fail
    refine (spec_RamOk _ _ _ _).mono ?_
    rintro _ w1 ⟨rfl, hb⟩
    (have HB := Aside0.mk (below_step (w := w) blw hb); have hz1 := hb.size; obtain ⟨hcl1, hfr1, hlt1, _⟩ := bcell hb; (try simp only [sA, sC, sD] at hz1); (try simp only [sA, sC, sD] at hcl1 hfr1 hlt1); have hk1_0 : w.heap.size < w1.heap.size := (by omega); have hk1_1 : w.heap.size + 1 < w1.heap.size := (by omega); have HB1 := hR w1; clear hb)
    go_wp2_with fail
    refine (spec_Peek _ _ _ _ _ (h.below (blw)) p0 p1).mono ?_
    rintro _ w2 ⟨rfl, hb⟩
    (have HB := Aside0.mk (below_step (w := w) blw hb); have HB1 := Aside0.mk (below_step (w := w1) blw hb); have hz2 := hb.size; obtain ⟨hcl2, hfr2, hlt2, _⟩ := bcell hb; (try simp only [sA, sC, sD] at hz2); (try simp only [sA, sC, sD] at hcl2 hfr2 hlt2); have hk2_0 : w.heap.size < w2.heap.size := (by omega); have hk2_1 : w.heap.size + 1 < w2.heap.size := (by omega); have HB2 := hR w2; clear hb)
    go_wp2_with fail
    refine (spec_Peek _ _ _ _ _ (h.below (blw)) (by omega) (by omega)).mono ?_
    rintro _ w3 ⟨rfl, hb⟩
    (have HB := Aside0.mk (below_step (w := w) blw hb); have HB1 := Aside0.mk (below_step (w := w1) blw hb); have HB2 := Aside0.mk (below_step (w := w2) blw hb); have hz3 := hb.size; obtain ⟨hcl3, hfr3, hlt3, _⟩ := bcell hb; (try simp only [sA, sC, sD] at hz3); (try simp only [sA, sC, sD] at hcl3 hfr3 hlt3); have hk3_0 : w.heap.size < w3.heap.size := (by omega); have hk3_1 : w.heap.size + 1 < w3.heap.size := (by omega); have HB3 := hR w3; clear hb)
    go_wp2_with fail
    refine (hm _).mono ?_
    rintro _ w4 ⟨rfl, hb⟩
    (have HB := Aside0.mk (below_step (w := w) blw hb); have HB1 := Aside0.mk (below_step (w := w1) blw hb); have HB2 := Aside0.mk (below_step (w := w2) blw hb); have HB3 := Aside0.mk (below_step (w := w3) blw hb); have hz4 := hb.size; obtain ⟨hcl4, hfr4, hlt4, _⟩ := bcell hb; (try simp only [sA, sC, sD] at hz4); (try simp only [sA, sC, sD] at hcl4 hfr4 hlt4); have hk4_0 : w.heap.size < w4.heap.size := (by omega); have hk4_1 : w.heap.size + 1 < w4.heap.size := (by omega); have HB4 := hR w4; clear hb)
    go_wp2_with fail
    refine (spec_Peek _ _ _ _ _ (h.below (blw)) (by omega) (by omega)).mono ?_
    rintro _ w5 ⟨rfl, hb⟩
    (have HB := Aside0.mk (below_step (w := w) blw hb); have HB1 := Aside0.mk (below_step (w := w1) blw hb); have HB2 := Aside0.mk (below_step (w := w2) blw hb); have HB3 := Aside0.mk (below_step (w := w3) blw hb); have HB4 := Aside0.mk (below_step (w := w4) blw hb); have hz5 := hb.size; obtain ⟨hcl5, hfr5, hlt5, _⟩ := bcell hb; (try simp only [sA, sC, sD] at hz5); (try simp only [sA, sC, sD] at hcl5 hfr5 hlt5); have hk5_0 : w.heap.size < w5.heap.size := (by omega); have hk5_1 : w.heap.size + 1 < w5.heap.size := (by omega); have HB5 := hR w5; clear hb)
    go_wp2_with (first | (go_at_call 88; ((with_reducible refine (spec_l04Word _ _ _ hz.1 hz.2 hy.1 hy.2).mono ?_); rintro _ _ ⟨rfl, rfl⟩)))
    go_region_held3 (fun w' => Below w.heap.size w w' ∧ w'.cell? ⟨w.heap.size, 0, none⟩ = some (.int .u8 x.A) ∧ w'.cell? ⟨w.heap.size, 1, none⟩ = some (.int .u8 x.X) ∧ w'.cell? ⟨w.heap.size, 2, none⟩ = some (.int .u8 x.Y) ∧ w'.cell? ⟨w.heap.size, 3, none⟩ = some (.int .u8 x.S) ∧ w'.cell? ⟨w.heap.size, 4, none⟩ = some (.int .u16 x.PC) ∧ w'.cell? ⟨w.heap.size, 5, none⟩ = some (.bool x.F.N) ∧ w'.cell? ⟨w.heap.size, 6, none⟩ = some (.bool x.F.V) ∧ w'.cell? ⟨w.heap.size, 7, none⟩ = some (.bool x.F.D) ∧ w'.cell? ⟨w.heap.size, 8, none⟩ = some (.bool x.F.I) ∧ w'.cell? ⟨w.heap.size, 9, none⟩ = some (.bool x.F.Z) ∧ w'.cell? ⟨w.heap.size, 10, none⟩ = some (.bool x.F.C) ∧ w'.cell? ⟨w.heap.size + 1, 0, none⟩ = some (.slice A l.length c)) (first | (go_keep; done) | (go_split_ands; (repeat' apply And.intro) <;> (first | (with_reducible assumption) | (go_simp; done) | (exact cell_keep blw (by assumption)) | exact blw))) (first | (go_at_call 68; ((with_reducible refine (hm _).mono ?_); rintro _ w6 ⟨rfl, hb⟩; have HB := Aside0.mk (below_step (w := w) blw hb); have HB5 := Aside0.mk (below_step (w := w5) blw hb); have hz6 := hb.size; obtain ⟨hcl6, hfr6, hlt6, _⟩ := bcell hb; (try simp only [sA, sC, sD] at hz6); (try simp only [sA, sC, sD] at hcl6 hfr6 hlt6); have hk6_0 : w.heap.size < w6.heap.size := (by omega); have hk6_1 : w.heap.size + 1 < w6.heap.size := (by omega); have HB6 := hR w6; clear hb)) | (go_at_call 89; ((with_reducible refine (spec_l06Index8 x _ ho).mono ?_); rintro _ w7 ⟨rfl, hb⟩; have HB := Aside0.mk (below_step (w := w) blw hb); have HB5 := Aside0.mk (below_step (w := w5) blw hb); have HB6 := Aside0.mk (below_step (w := w6) blw hb); have hz7 := hb.size; obtain ⟨hcl7, hfr7, hlt7, _⟩ := bcell hb; (try simp only [sA, sC, sD] at hz7); (try simp only [sA, sC, sD] at hcl7 hfr7 hlt7); have hk7_0 : w.heap.size < w7.heap.size := (by omega); have hk7_1 : w.heap.size + 1 < w7.heap.size := (by omega); have HB7 := hR w7; clear hb)))
    go_wp2
    go_ret
    exact ⟨ret_of (congrArg Value.bool (pageS (by have := word2_bb hz hy; omega) (word2_bb hz hy))), blw⟩
  by_cases q11 : m = 11
  · subst q11
    generalize hzz : peek l ((x.PC + 1) % 65536) = z at hz ⊢
    have hu := peek_b h z
    have hv := peek_b h ((z + 1) % 256)
    have e3 : IntKind.u16.wrap z = z := by rw [IntKind.wrap_u16]; omega
    have e4 : IntKind.u8.wrap (z + 1) = (z + 1) % 256 := by simp [IntKind.wrap, IntKind.bits, IntKind.signed]
    have e5 : IntKind.u16.wrap ((z + 1) % 256) = (z + 1) % 256 := by rw [IntKind.wrap_u16]; omega
    have HB := hR w; go_enter Tryz.func37, Tryz.ntmps37
    go_wp2_with fail
    refine (spec_RamOk _ _ _ _).mono ?_
    rintro _ w1 ⟨rfl, hb⟩
    (have HB := Aside0.mk (below_step (w := w) blw hb); have hz1 := hb.size; obtain ⟨hcl1, hfr1, hlt1, _⟩ := bcell hb; (try simp only [sA, sC, sD] at hz1); (try simp only [sA, sC, sD] at hcl1 hfr1 hlt1); have hk1_0 : w.heap.size < w1.heap.size := (by omega); have hk1_1 : w.heap.size + 1 < w1.heap.size := (by omega); have HB1 := hR w1; clear hb)
    go_wp2_with fail
    refine (spec_Peek _ _ _ _ _ (h.below (blw)) p0 p1).mono ?_
    rintro _ w2 ⟨rfl, hb⟩
    (have HB := Aside0.mk (below_step (w := w) blw hb); have HB1 := Aside0.mk (below_step (w := w1) blw hb); have hz2 := hb.size; obtain ⟨hcl2, hfr2, hlt2, _⟩ := bcell hb; (try simp only [sA, sC, sD] at hz2); (try simp only [sA, sC, sD] at hcl2 hfr2 hlt2); have hk2_0 : w.heap.size < w2.heap.size := (by omega); have hk2_1 : w.heap.size + 1 < w2.heap.size := (by omega); have HB2 := hR w2; clear hb)
    go_wp2_with fail
    refine (spec_Peek _ _ _ _ _ (h.below (blw)) (by omega) (by omega)).mono ?_
    rintro _ w3 ⟨rfl, hb⟩
    (have HB := Aside0.mk (below_step (w := w) blw hb); have HB1 := Aside0.mk (below_step (w := w1) blw hb); have HB2 := Aside0.mk (below_step (w := w2) blw hb); have hz3 := hb.size; obtain ⟨hcl3, hfr3, hlt3, _⟩ := bcell hb; (try simp only [sA, sC, sD] at hz3); (try simp only [sA, sC, sD] at hcl3 hfr3 hlt3); have hk3_0 : w.heap.size < w3.heap.size := (by omega); have hk3_1 : w.heap.size + 1 < w3.heap.size := (by omega); have HB3 := hR w3; clear hb)
    go_wp2_with fail
    refine (hm _).mono ?_
    rintro _ w4 ⟨rfl, hb⟩
    (have HB := Aside0.mk (below_step (w := w) blw hb); have HB1 := Aside0.mk (below_step (w := w1) blw hb); have HB2 := Aside0.mk (below_step (w := w2) blw hb); have HB3 := Aside0.mk (below_step (w := w3) blw hb); have hz4 := hb.size; obtain ⟨hcl4, hfr4, hlt4, _⟩ := bcell hb; (try simp only [sA, sC, sD] at hz4); (try simp only [sA, sC, sD] at hcl4 hfr4 hlt4); have hk4_0 : w.heap.size < w4.heap.size := (by omega); have hk4_1 : w.heap.size + 1 < w4.heap.size := (by omega); have HB4 := hR w4; clear hb)
    go_wp2_with fail
    go_region_held3 (fun w' => Below w.heap.size w w' ∧ w'.cell? ⟨w.heap.size, 0, none⟩ = some (.int .u8 x.A) ∧ w'.cell? ⟨w.heap.size, 1, none⟩ = some (.int .u8 x.X) ∧ w'.cell? ⟨w.heap.size, 2, none⟩ = some (.int .u8 x.Y) ∧ w'.cell? ⟨w.heap.size, 3, none⟩ = some (.int .u8 x.S) ∧ w'.cell? ⟨w.heap.size, 4, none⟩ = some (.int .u16 x.PC) ∧ w'.cell? ⟨w.heap.size, 5, none⟩ = some (.bool x.F.N) ∧ w'.cell? ⟨w.heap.size, 6, none⟩ = some (.bool x.F.V) ∧ w'.cell? ⟨w.heap.size, 7, none⟩ = some (.bool x.F.D) ∧ w'.cell? ⟨w.heap.size, 8, none⟩ = some (.bool x.F.I) ∧ w'.cell? ⟨w.heap.size, 9, none⟩ = some (.bool x.F.Z) ∧ w'.cell? ⟨w.heap.size, 10, none⟩ = some (.bool x.F.C) ∧ w'.cell? ⟨w.heap.size + 1, 0, none⟩ = some (.slice A l.length c)) (first | (go_keep; done) | (go_split_ands; (repeat' apply And.intro) <;> (first | (with_reducible assumption) | (go_simp; done) | (exact cell_keep blw (by assumption)) | exact blw))) (first | (go_at_call 35; ((with_reducible refine (spec_Peek _ _ _ _ _ (h.below (blw)) (by omega) (by omega)).mono ?_); rintro _ w6 ⟨rfl, hb⟩; have HB := Aside0.mk (below_step (w := w) blw hb); have HB4 := Aside0.mk (below_step (w := w4) blw hb); have hz6 := hb.size; obtain ⟨hcl6, hfr6, hlt6, _⟩ := bcell hb; (try simp only [sA, sC, sD] at hz6); (try simp only [sA, sC, sD] at hcl6 hfr6 hlt6); have hk6_0 : w.heap.size < w6.heap.size := (by omega); have hk6_1 : w.heap.size + 1 < w6.heap.size := (by omega); have HB6 := hR w6; clear hb)) | (go_at_call 88; ((with_reducible refine (spec_l04Word _ _ _ hu.1 hu.2 hv.1 hv.2).mono ?_); rintro _ _ ⟨rfl, rfl⟩)))
    go_wp2
    go_ret
    exact ⟨ret_of (congrArg Value.bool (pageS (by have := word2_bb hu hv; omega) (word2_bb hu hv))), blw⟩
  by_cases q12 : m = 12
  · subst q12
    obtain ⟨b, hh⟩ : ∃ b, holds x.F nm = b := ⟨_, rfl⟩
    have hk := fun W => spec_l06Holds x.F nm W
    rw [hh] at hk
    rw [show crossM x l 12 nm (peek l ((x.PC + 1) % 65536)) (peek l ((x.PC + 2) % 65536)) = (b && !(pageOf ((x.PC + 2) % 65536 + offs (peek l ((x.PC + 1) % 65536))) == pageOf ((x.PC + 2) % 65536))) from by rw [← hh]; rfl]
    cases b
    · have HB := hR w; go_enter Tryz.func37, Tryz.ntmps37
      go_wp2_with fail
      refine (spec_RamOk _ _ _ _).mono ?_
      rintro _ w1 ⟨rfl, hb⟩
      (have HB := Aside0.mk (below_step (w := w) blw hb); have hz1 := hb.size; obtain ⟨hcl1, hfr1, hlt1, _⟩ := bcell hb; (try simp only [sA, sC, sD] at hz1); (try simp only [sA, sC, sD] at hcl1 hfr1 hlt1); have hk1_0 : w.heap.size < w1.heap.size := (by omega); have hk1_1 : w.heap.size + 1 < w1.heap.size := (by omega); have HB1 := hR w1; clear hb)
      go_wp2_with fail
      refine (spec_Peek _ _ _ _ _ (h.below (blw)) p0 p1).mono ?_
      rintro _ w2 ⟨rfl, hb⟩
      (have HB := Aside0.mk (below_step (w := w) blw hb); have HB1 := Aside0.mk (below_step (w := w1) blw hb); have hz2 := hb.size; obtain ⟨hcl2, hfr2, hlt2, _⟩ := bcell hb; (try simp only [sA, sC, sD] at hz2); (try simp only [sA, sC, sD] at hcl2 hfr2 hlt2); have hk2_0 : w.heap.size < w2.heap.size := (by omega); have hk2_1 : w.heap.size + 1 < w2.heap.size := (by omega); have HB2 := hR w2; clear hb)
      go_wp2_with fail
      refine (spec_Peek _ _ _ _ _ (h.below (blw)) (by omega) (by omega)).mono ?_
      rintro _ w3 ⟨rfl, hb⟩
      (have HB := Aside0.mk (below_step (w := w) blw hb); have HB1 := Aside0.mk (below_step (w := w1) blw hb); have HB2 := Aside0.mk (below_step (w := w2) blw hb); have hz3 := hb.size; obtain ⟨hcl3, hfr3, hlt3, _⟩ := bcell hb; (try simp only [sA, sC, sD] at hz3); (try simp only [sA, sC, sD] at hcl3 hfr3 hlt3); have hk3_0 : w.heap.size < w3.heap.size := (by omega); have hk3_1 : w.heap.size + 1 < w3.heap.size := (by omega); have HB3 := hR w3; clear hb)
      go_wp2_with fail
      refine (hm _).mono ?_
      rintro _ w4 ⟨rfl, hb⟩
      (have HB := Aside0.mk (below_step (w := w) blw hb); have HB1 := Aside0.mk (below_step (w := w1) blw hb); have HB2 := Aside0.mk (below_step (w := w2) blw hb); have HB3 := Aside0.mk (below_step (w := w3) blw hb); have hz4 := hb.size; obtain ⟨hcl4, hfr4, hlt4, _⟩ := bcell hb; (try simp only [sA, sC, sD] at hz4); (try simp only [sA, sC, sD] at hcl4 hfr4 hlt4); have hk4_0 : w.heap.size < w4.heap.size := (by omega); have hk4_1 : w.heap.size + 1 < w4.heap.size := (by omega); have HB4 := hR w4; clear hb)
      go_wp2_with fail
      go_region_held3 (fun w' => Below w.heap.size w w' ∧ w'.cell? ⟨w.heap.size, 0, none⟩ = some (.int .u8 x.A) ∧ w'.cell? ⟨w.heap.size, 1, none⟩ = some (.int .u8 x.X) ∧ w'.cell? ⟨w.heap.size, 2, none⟩ = some (.int .u8 x.Y) ∧ w'.cell? ⟨w.heap.size, 3, none⟩ = some (.int .u8 x.S) ∧ w'.cell? ⟨w.heap.size, 4, none⟩ = some (.int .u16 x.PC) ∧ w'.cell? ⟨w.heap.size, 5, none⟩ = some (.bool x.F.N) ∧ w'.cell? ⟨w.heap.size, 6, none⟩ = some (.bool x.F.V) ∧ w'.cell? ⟨w.heap.size, 7, none⟩ = some (.bool x.F.D) ∧ w'.cell? ⟨w.heap.size, 8, none⟩ = some (.bool x.F.I) ∧ w'.cell? ⟨w.heap.size, 9, none⟩ = some (.bool x.F.Z) ∧ w'.cell? ⟨w.heap.size, 10, none⟩ = some (.bool x.F.C) ∧ w'.cell? ⟨w.heap.size + 1, 0, none⟩ = some (.slice A l.length c)) (first | (go_keep; done) | (go_split_ands; (repeat' apply And.intro) <;> (first | (with_reducible assumption) | (go_simp; done) | (exact cell_keep blw (by assumption)) | exact blw))) (first | (go_at_call 65; ((with_reducible refine (hn _).mono ?_); rintro _ w6 ⟨rfl, hb⟩; have HB := Aside0.mk (below_step (w := w) blw hb); have HB4 := Aside0.mk (below_step (w := w4) blw hb); have hz6 := hb.size; obtain ⟨hcl6, hfr6, hlt6, _⟩ := bcell hb; (try simp only [sA, sC, sD] at hz6); (try simp only [sA, sC, sD] at hcl6 hfr6 hlt6); have hk6_0 : w.heap.size < w6.heap.size := (by omega); have hk6_1 : w.heap.size + 1 < w6.heap.size := (by omega); have HB6 := hR w6; clear hb)) | (go_at_call 90; ((with_reducible refine (hk _).mono ?_); rintro _ w7 ⟨rfl, hb⟩; have HB := Aside0.mk (below_step (w := w) blw hb); have HB4 := Aside0.mk (below_step (w := w4) blw hb); have HB6 := Aside0.mk (below_step (w := w6) blw hb); have hz7 := hb.size; obtain ⟨hcl7, hfr7, hlt7, _⟩ := bcell hb; (try simp only [sA, sC, sD] at hz7); (try simp only [sA, sC, sD] at hcl7 hfr7 hlt7); have hk7_0 : w.heap.size < w7.heap.size := (by omega); have hk7_1 : w.heap.size + 1 < w7.heap.size := (by omega); have HB7 := hR w7; clear hb)))
      go_wp2
      go_ret
      exact ⟨ret_of (congrArg Value.bool (by rw [i64_and65535, i64_and65535, Int.emod_emod_of_dvd _ (by decide), Bool.false_and]; simp)), blw⟩
    · have HB := hR w; go_enter Tryz.func37, Tryz.ntmps37
      go_wp2_with fail
      refine (spec_RamOk _ _ _ _).mono ?_
      rintro _ w1 ⟨rfl, hb⟩
      (have HB := Aside0.mk (below_step (w := w) blw hb); have hz1 := hb.size; obtain ⟨hcl1, hfr1, hlt1, _⟩ := bcell hb; (try simp only [sA, sC, sD] at hz1); (try simp only [sA, sC, sD] at hcl1 hfr1 hlt1); have hk1_0 : w.heap.size < w1.heap.size := (by omega); have hk1_1 : w.heap.size + 1 < w1.heap.size := (by omega); have HB1 := hR w1; clear hb)
      go_wp2_with fail
      refine (spec_Peek _ _ _ _ _ (h.below (blw)) p0 p1).mono ?_
      rintro _ w2 ⟨rfl, hb⟩
      (have HB := Aside0.mk (below_step (w := w) blw hb); have HB1 := Aside0.mk (below_step (w := w1) blw hb); have hz2 := hb.size; obtain ⟨hcl2, hfr2, hlt2, _⟩ := bcell hb; (try simp only [sA, sC, sD] at hz2); (try simp only [sA, sC, sD] at hcl2 hfr2 hlt2); have hk2_0 : w.heap.size < w2.heap.size := (by omega); have hk2_1 : w.heap.size + 1 < w2.heap.size := (by omega); have HB2 := hR w2; clear hb)
      go_wp2_with fail
      refine (spec_Peek _ _ _ _ _ (h.below (blw)) (by omega) (by omega)).mono ?_
      rintro _ w3 ⟨rfl, hb⟩
      (have HB := Aside0.mk (below_step (w := w) blw hb); have HB1 := Aside0.mk (below_step (w := w1) blw hb); have HB2 := Aside0.mk (below_step (w := w2) blw hb); have hz3 := hb.size; obtain ⟨hcl3, hfr3, hlt3, _⟩ := bcell hb; (try simp only [sA, sC, sD] at hz3); (try simp only [sA, sC, sD] at hcl3 hfr3 hlt3); have hk3_0 : w.heap.size < w3.heap.size := (by omega); have hk3_1 : w.heap.size + 1 < w3.heap.size := (by omega); have HB3 := hR w3; clear hb)
      go_wp2_with fail
      refine (hm _).mono ?_
      rintro _ w4 ⟨rfl, hb⟩
      (have HB := Aside0.mk (below_step (w := w) blw hb); have HB1 := Aside0.mk (below_step (w := w1) blw hb); have HB2 := Aside0.mk (below_step (w := w2) blw hb); have HB3 := Aside0.mk (below_step (w := w3) blw hb); have hz4 := hb.size; obtain ⟨hcl4, hfr4, hlt4, _⟩ := bcell hb; (try simp only [sA, sC, sD] at hz4); (try simp only [sA, sC, sD] at hcl4 hfr4 hlt4); have hk4_0 : w.heap.size < w4.heap.size := (by omega); have hk4_1 : w.heap.size + 1 < w4.heap.size := (by omega); have HB4 := hR w4; clear hb)
      go_wp2_with fail
      go_region_held3 (fun w' => Below w.heap.size w w' ∧ w'.cell? ⟨w.heap.size, 0, none⟩ = some (.int .u8 x.A) ∧ w'.cell? ⟨w.heap.size, 1, none⟩ = some (.int .u8 x.X) ∧ w'.cell? ⟨w.heap.size, 2, none⟩ = some (.int .u8 x.Y) ∧ w'.cell? ⟨w.heap.size, 3, none⟩ = some (.int .u8 x.S) ∧ w'.cell? ⟨w.heap.size, 4, none⟩ = some (.int .u16 x.PC) ∧ w'.cell? ⟨w.heap.size, 5, none⟩ = some (.bool x.F.N) ∧ w'.cell? ⟨w.heap.size, 6, none⟩ = some (.bool x.F.V) ∧ w'.cell? ⟨w.heap.size, 7, none⟩ = some (.bool x.F.D) ∧ w'.cell? ⟨w.heap.size, 8, none⟩ = some (.bool x.F.I) ∧ w'.cell? ⟨w.heap.size, 9, none⟩ = some (.bool x.F.Z) ∧ w'.cell? ⟨w.heap.size, 10, none⟩ = some (.bool x.F.C) ∧ w'.cell? ⟨w.heap.size + 1, 0, none⟩ = some (.slice A l.length c)) (first | (go_keep; done) | (go_split_ands; (repeat' apply And.intro) <;> (first | (with_reducible assumption) | (go_simp; done) | (exact cell_keep blw (by assumption)) | exact blw))) (first | (go_at_call 65; ((with_reducible refine (hn _).mono ?_); rintro _ w6 ⟨rfl, hb⟩; have HB := Aside0.mk (below_step (w := w) blw hb); have HB4 := Aside0.mk (below_step (w := w4) blw hb); have hz6 := hb.size; obtain ⟨hcl6, hfr6, hlt6, _⟩ := bcell hb; (try simp only [sA, sC, sD] at hz6); (try simp only [sA, sC, sD] at hcl6 hfr6 hlt6); have hk6_0 : w.heap.size < w6.heap.size := (by omega); have hk6_1 : w.heap.size + 1 < w6.heap.size := (by omega); have HB6 := hR w6; clear hb)) | (go_at_call 90; ((with_reducible refine (hk _).mono ?_); rintro _ w7 ⟨rfl, hb⟩; have HB := Aside0.mk (below_step (w := w) blw hb); have HB4 := Aside0.mk (below_step (w := w4) blw hb); have HB6 := Aside0.mk (below_step (w := w6) blw hb); have hz7 := hb.size; obtain ⟨hcl7, hfr7, hlt7, _⟩ := bcell hb; (try simp only [sA, sC, sD] at hz7); (try simp only [sA, sC, sD] at hcl7 hfr7 hlt7); have hk7_0 : w.heap.size < w7.heap.size := (by omega); have hk7_1 : w.heap.size + 1 < w7.heap.size := (by omega); have HB7 := hR w7; clear hb)))
      go_wp2_with (first | (go_at_call 91; ((with_reducible refine (spec_l04Offset _ _ hz.1 hz.2).mono ?_); rintro _ _ ⟨rfl, rfl⟩)))
      go_ret
      exact ⟨ret_of (congrArg Value.bool (by rw [i64_and65535 (x.PC + 2), Bool.true_and]; exact pageS (s := (x.PC + 2) % 65536 + offs (peek l ((x.PC + 1) % 65536))) (n := (x.PC + 2) % 65536) (by have := offs_b (peek l ((x.PC + 1) % 65536)) hz; omega) (by omega))), blw⟩
  have b7 : (m == 7) = false := beq_eq_false_iff_ne.2 q7
  have b8 : (m == 8) = false := beq_eq_false_iff_ne.2 q8
  have b11 : (m == 11) = false := beq_eq_false_iff_ne.2 q11
  have b12 : (m == 12) = false := beq_eq_false_iff_ne.2 q12
  rw [show crossM x l m nm (peek l ((x.PC + 1) % 65536)) (peek l ((x.PC + 2) % 65536)) = false from by simp [crossM, q7, q8, q11, q12]]
  have HB := hR w; go_enter Tryz.func37, Tryz.ntmps37
  go_wp2_with fail
  refine (spec_RamOk _ _ _ _).mono ?_
  rintro _ w1 ⟨rfl, hb⟩
  (have HB := Aside0.mk (below_step (w := w) blw hb); have hz1 := hb.size; obtain ⟨hcl1, hfr1, hlt1, _⟩ := bcell hb; (try simp only [sA, sC, sD] at hz1); (try simp only [sA, sC, sD] at hcl1 hfr1 hlt1); have hk1_0 : w.heap.size < w1.heap.size := (by omega); have hk1_1 : w.heap.size + 1 < w1.heap.size := (by omega); have HB1 := hR w1; clear hb)
  go_wp2_with fail
  refine (spec_Peek _ _ _ _ _ (h.below (blw)) p0 p1).mono ?_
  rintro _ w2 ⟨rfl, hb⟩
  (have HB := Aside0.mk (below_step (w := w) blw hb); have HB1 := Aside0.mk (below_step (w := w1) blw hb); have hz2 := hb.size; obtain ⟨hcl2, hfr2, hlt2, _⟩ := bcell hb; (try simp only [sA, sC, sD] at hz2); (try simp only [sA, sC, sD] at hcl2 hfr2 hlt2); have hk2_0 : w.heap.size < w2.heap.size := (by omega); have hk2_1 : w.heap.size + 1 < w2.heap.size := (by omega); have HB2 := hR w2; clear hb)
  go_wp2_with fail
  refine (spec_Peek _ _ _ _ _ (h.below (blw)) (by omega) (by omega)).mono ?_
  rintro _ w3 ⟨rfl, hb⟩
  (have HB := Aside0.mk (below_step (w := w) blw hb); have HB1 := Aside0.mk (below_step (w := w1) blw hb); have HB2 := Aside0.mk (below_step (w := w2) blw hb); have hz3 := hb.size; obtain ⟨hcl3, hfr3, hlt3, _⟩ := bcell hb; (try simp only [sA, sC, sD] at hz3); (try simp only [sA, sC, sD] at hcl3 hfr3 hlt3); have hk3_0 : w.heap.size < w3.heap.size := (by omega); have hk3_1 : w.heap.size + 1 < w3.heap.size := (by omega); have HB3 := hR w3; clear hb)
  go_wp2_with fail
  refine (hm _).mono ?_
  rintro _ w4 ⟨rfl, hb⟩
  (have HB := Aside0.mk (below_step (w := w) blw hb); have HB1 := Aside0.mk (below_step (w := w1) blw hb); have HB2 := Aside0.mk (below_step (w := w2) blw hb); have HB3 := Aside0.mk (below_step (w := w3) blw hb); have hz4 := hb.size; obtain ⟨hcl4, hfr4, hlt4, _⟩ := bcell hb; (try simp only [sA, sC, sD] at hz4); (try simp only [sA, sC, sD] at hcl4 hfr4 hlt4); have hk4_0 : w.heap.size < w4.heap.size := (by omega); have hk4_1 : w.heap.size + 1 < w4.heap.size := (by omega); have HB4 := hR w4; clear hb)
  go_wp2
  go_ret
  exact ⟨ret_of (congrArg Value.bool (by decide +kernel)), blw⟩
set_option maxHeartbeats 4000000 in
theorem impl_Crossed (x : Cpu) (A : Option Addr) (c : Nat) (l : List Int) (w : World) (ho : x.ok) (h : Bs w A l) (he : Env w) :
    Calls Tryz.prog 36 #[.agg #[.int .u8 x.A, .int .u8 x.X, .int .u8 x.Y, .int .u8 x.S, .int .u16 x.PC, .bool x.F.N, .bool x.F.V, .bool x.F.D, .bool x.F.I, .bool x.F.Z, .bool x.F.C], .agg #[.slice A l.length c]] w fun e w' => e = .returned (.bool (crossed x l)) ∧ Below w.heap.size w w' := by
  obtain ⟨b, hb⟩ : ∃ b, ramSize l.length = b := ⟨_, rfl⟩
  obtain ⟨a0, a1, x0, x1, y0, y1, s0, s1, p0, p1⟩ := ho
  cases b
  · rw [show crossed x l = false from by simp [crossed, hb]]
    have HB := hR w; go_enter Tryz.func36, Tryz.ntmps36
    go_wp2_with fail
    refine (impl_RamOk _ _ _ _).mono ?_
    rintro _ w1 ⟨rfl, hb⟩
    (have HB := Aside0.mk (below_step (w := w) blw hb); have hz1 := hb.size; obtain ⟨hcl1, hfr1, hlt1, _⟩ := bcell hb; (try simp only [sA, sC, sD] at hz1); (try simp only [sA, sC, sD] at hcl1 hfr1 hlt1); have hk1_0 : w.heap.size < w1.heap.size := (by omega); have hk1_1 : w.heap.size + 1 < w1.heap.size := (by omega); have HB1 := hR w1; clear hb)
    go_wp2_with fail
    go_ret
    exact ⟨rfl, blw⟩
  have e1 : IntKind.u16.wrap (x.PC + 1) = (x.PC + 1) % 65536 := IntKind.wrap_u16 _
  have e2 : IntKind.u16.wrap (x.PC + 2) = (x.PC + 2) % 65536 := IntKind.wrap_u16 _
  have hp := peek_b h x.PC
  have hm := fun W e => impl_operation (peek l x.PC) W hp.1 hp.2 e
  obtain ⟨m0, m1⟩ := of_byte (p := fun c => -1 ≤ mdI c ∧ mdI c ≤ 12) mdI_b (peek l x.PC) hp.1 hp.2
  have hz := peek_b h ((x.PC + 1) % 65536)
  have hy := peek_b h ((x.PC + 2) % 65536)
  unfold crossed
  rw [hb, Bool.true_and]
  generalize mdI (peek l x.PC) = m at hm m0 m1 ⊢
  generalize nmL (peek l x.PC) = nm at hm ⊢
  by_cases q7 : m = 7
  · subst q7
    have HB := hR w; go_enter Tryz.func36, Tryz.ntmps36
    go_wp2_with fail
    refine (impl_RamOk _ _ _ _).mono ?_
    rintro _ w1 ⟨rfl, hb⟩
    (have HB := Aside0.mk (below_step (w := w) blw hb); have hz1 := hb.size; obtain ⟨hcl1, hfr1, hlt1, _⟩ := bcell hb; (try simp only [sA, sC, sD] at hz1); (try simp only [sA, sC, sD] at hcl1 hfr1 hlt1); have hk1_0 : w.heap.size < w1.heap.size := (by omega); have hk1_1 : w.heap.size + 1 < w1.heap.size := (by omega); have HB1 := hR w1; clear hb)
    go_wp2_with fail
    refine (impl_Peek _ _ _ _ _ (h.below (blw)) p0 p1).mono ?_
    rintro _ w2 ⟨rfl, hb⟩
    (have HB := Aside0.mk (below_step (w := w) blw hb); have HB1 := Aside0.mk (below_step (w := w1) blw hb); have hz2 := hb.size; obtain ⟨hcl2, hfr2, hlt2, _⟩ := bcell hb; (try simp only [sA, sC, sD] at hz2); (try simp only [sA, sC, sD] at hcl2 hfr2 hlt2); have hk2_0 : w.heap.size < w2.heap.size := (by omega); have hk2_1 : w.heap.size + 1 < w2.heap.size := (by omega); have HB2 := hR w2; clear hb)
    go_wp2_with fail
    refine (hm _ (he.below HB.out)).mono ?_
    rintro _ w3 ⟨rfl, hb⟩
    (have HB := Aside0.mk (below_step (w := w) blw hb); have HB1 := Aside0.mk (below_step (w := w1) blw hb); have HB2 := Aside0.mk (below_step (w := w2) blw hb); have hz3 := hb.size; obtain ⟨hcl3, hfr3, hlt3, _⟩ := bcell hb; (try simp only [sA, sC, sD] at hz3); (try simp only [sA, sC, sD] at hcl3 hfr3 hlt3); have hk3_0 : w.heap.size < w3.heap.size := (by omega); have hk3_1 : w.heap.size + 1 < w3.heap.size := (by omega); have HB3 := hR w3; clear hb)
    go_wp2_with fail
    refine (impl_Peek _ _ _ _ _ (h.below (blw)) (by omega) (by omega)).mono ?_
    rintro _ w4 ⟨rfl, hb⟩
    (have HB := Aside0.mk (below_step (w := w) blw hb); have HB1 := Aside0.mk (below_step (w := w1) blw hb); have HB2 := Aside0.mk (below_step (w := w2) blw hb); have HB3 := Aside0.mk (below_step (w := w3) blw hb); have hz4 := hb.size; obtain ⟨hcl4, hfr4, hlt4, _⟩ := bcell hb; (try simp only [sA, sC, sD] at hz4); (try simp only [sA, sC, sD] at hcl4 hfr4 hlt4); have hk4_0 : w.heap.size < w4.heap.size := (by omega); have hk4_1 : w.heap.size + 1 < w4.heap.size := (by omega); have HB4 := hR w4; clear hb)
    go_wp2_with fail
    go_region_held3 (fun w' => Below w.heap.size w w' ∧ w'.cell? ⟨w.heap.size, 0, none⟩ = some (.int .u8 x.A) ∧ w'.cell? ⟨w.heap.size, 1, none⟩ = some (.int .u8 x.X) ∧ w'.cell? ⟨w.heap.size, 2, none⟩ = some (.int .u8 x.Y) ∧ w'.cell? ⟨w.heap.size, 3, none⟩ = some (.int .u8 x.S) ∧ w'.cell? ⟨w.heap.size, 4, none⟩ = some (.int .u16 x.PC) ∧ w'.cell? ⟨w.heap.size, 5, none⟩ = some (.bool x.F.N) ∧ w'.cell? ⟨w.heap.size, 6, none⟩ = some (.bool x.F.V) ∧ w'.cell? ⟨w.heap.size, 7, none⟩ = some (.bool x.F.D) ∧ w'.cell? ⟨w.heap.size, 8, none⟩ = some (.bool x.F.I) ∧ w'.cell? ⟨w.heap.size, 9, none⟩ = some (.bool x.F.Z) ∧ w'.cell? ⟨w.heap.size, 10, none⟩ = some (.bool x.F.C) ∧ w'.cell? ⟨w.heap.size + 1, 0, none⟩ = some (.slice A l.length c)) (first | (go_keep; done) | (go_split_ands; (repeat' apply And.intro) <;> (first | (with_reducible assumption) | (go_simp; done) | (exact cell_keep blw (by assumption)) | exact blw))) (first | (go_at_call 76; ((with_reducible refine (impl_Peek _ _ _ _ _ (h.below (blw)) (by omega) (by omega)).mono ?_); rintro _ w6 ⟨rfl, hb⟩; have HB := Aside0.mk (below_step (w := w) blw hb); have HB4 := Aside0.mk (below_step (w := w4) blw hb); have hz6 := hb.size; obtain ⟨hcl6, hfr6, hlt6, _⟩ := bcell hb; (try simp only [sA, sC, sD] at hz6); (try simp only [sA, sC, sD] at hcl6 hfr6 hlt6); have hk6_0 : w.heap.size < w6.heap.size := (by omega); have hk6_1 : w.heap.size + 1 < w6.heap.size := (by omega); have HB6 := hR w6; clear hb)) | (go_at_call 85; ((with_reducible refine (impl_wordOf _ _ _ hz.1 hz.2 hy.1 hy.2).mono ?_); rintro _ _ ⟨rfl, rfl⟩)))
    go_wp2
    go_ret
    exact ⟨ret_of (congrArg Value.bool (pageI (word2_bb hz hy))), blw⟩
  by_cases q8 : m = 8
  · subst q8
    have HB := hR w; go_enter Tryz.func36, Tryz.ntmps36
    go_wp2_with fail
    refine (impl_RamOk _ _ _ _).mono ?_
    rintro _ w1 ⟨rfl, hb⟩
    (have HB := Aside0.mk (below_step (w := w) blw hb); have hz1 := hb.size; obtain ⟨hcl1, hfr1, hlt1, _⟩ := bcell hb; (try simp only [sA, sC, sD] at hz1); (try simp only [sA, sC, sD] at hcl1 hfr1 hlt1); have hk1_0 : w.heap.size < w1.heap.size := (by omega); have hk1_1 : w.heap.size + 1 < w1.heap.size := (by omega); have HB1 := hR w1; clear hb)
    go_wp2_with fail
    refine (impl_Peek _ _ _ _ _ (h.below (blw)) p0 p1).mono ?_
    rintro _ w2 ⟨rfl, hb⟩
    (have HB := Aside0.mk (below_step (w := w) blw hb); have HB1 := Aside0.mk (below_step (w := w1) blw hb); have hz2 := hb.size; obtain ⟨hcl2, hfr2, hlt2, _⟩ := bcell hb; (try simp only [sA, sC, sD] at hz2); (try simp only [sA, sC, sD] at hcl2 hfr2 hlt2); have hk2_0 : w.heap.size < w2.heap.size := (by omega); have hk2_1 : w.heap.size + 1 < w2.heap.size := (by omega); have HB2 := hR w2; clear hb)
    go_wp2_with fail
    refine (hm _ (he.below HB.out)).mono ?_
    rintro _ w3 ⟨rfl, hb⟩
    (have HB := Aside0.mk (below_step (w := w) blw hb); have HB1 := Aside0.mk (below_step (w := w1) blw hb); have HB2 := Aside0.mk (below_step (w := w2) blw hb); have hz3 := hb.size; obtain ⟨hcl3, hfr3, hlt3, _⟩ := bcell hb; (try simp only [sA, sC, sD] at hz3); (try simp only [sA, sC, sD] at hcl3 hfr3 hlt3); have hk3_0 : w.heap.size < w3.heap.size := (by omega); have hk3_1 : w.heap.size + 1 < w3.heap.size := (by omega); have HB3 := hR w3; clear hb)
    go_wp2_with fail
    refine (impl_Peek _ _ _ _ _ (h.below (blw)) (by omega) (by omega)).mono ?_
    rintro _ w4 ⟨rfl, hb⟩
    (have HB := Aside0.mk (below_step (w := w) blw hb); have HB1 := Aside0.mk (below_step (w := w1) blw hb); have HB2 := Aside0.mk (below_step (w := w2) blw hb); have HB3 := Aside0.mk (below_step (w := w3) blw hb); have hz4 := hb.size; obtain ⟨hcl4, hfr4, hlt4, _⟩ := bcell hb; (try simp only [sA, sC, sD] at hz4); (try simp only [sA, sC, sD] at hcl4 hfr4 hlt4); have hk4_0 : w.heap.size < w4.heap.size := (by omega); have hk4_1 : w.heap.size + 1 < w4.heap.size := (by omega); have HB4 := hR w4; clear hb)
    go_wp2_with fail
    go_region_held3 (fun w' => Below w.heap.size w w' ∧ w'.cell? ⟨w.heap.size, 0, none⟩ = some (.int .u8 x.A) ∧ w'.cell? ⟨w.heap.size, 1, none⟩ = some (.int .u8 x.X) ∧ w'.cell? ⟨w.heap.size, 2, none⟩ = some (.int .u8 x.Y) ∧ w'.cell? ⟨w.heap.size, 3, none⟩ = some (.int .u8 x.S) ∧ w'.cell? ⟨w.heap.size, 4, none⟩ = some (.int .u16 x.PC) ∧ w'.cell? ⟨w.heap.size, 5, none⟩ = some (.bool x.F.N) ∧ w'.cell? ⟨w.heap.size, 6, none⟩ = some (.bool x.F.V) ∧ w'.cell? ⟨w.heap.size, 7, none⟩ = some (.bool x.F.D) ∧ w'.cell? ⟨w.heap.size, 8, none⟩ = some (.bool x.F.I) ∧ w'.cell? ⟨w.heap.size, 9, none⟩ = some (.bool x.F.Z) ∧ w'.cell? ⟨w.heap.size, 10, none⟩ = some (.bool x.F.C) ∧ w'.cell? ⟨w.heap.size + 1, 0, none⟩ = some (.slice A l.length c)) (first | (go_keep; done) | (go_split_ands; (repeat' apply And.intro) <;> (first | (with_reducible assumption) | (go_simp; done) | (exact cell_keep blw (by assumption)) | exact blw))) (first | (go_at_call 76; ((with_reducible refine (impl_Peek _ _ _ _ _ (h.below (blw)) (by omega) (by omega)).mono ?_); rintro _ w6 ⟨rfl, hb⟩; have HB := Aside0.mk (below_step (w := w) blw hb); have HB4 := Aside0.mk (below_step (w := w4) blw hb); have hz6 := hb.size; obtain ⟨hcl6, hfr6, hlt6, _⟩ := bcell hb; (try simp only [sA, sC, sD] at hz6); (try simp only [sA, sC, sD] at hcl6 hfr6 hlt6); have hk6_0 : w.heap.size < w6.heap.size := (by omega); have hk6_1 : w.heap.size + 1 < w6.heap.size := (by omega); have HB6 := hR w6; clear hb)) | (go_at_call 85; ((with_reducible refine (impl_wordOf _ _ _ hz.1 hz.2 hy.1 hy.2).mono ?_); rintro _ _ ⟨rfl, rfl⟩)))
    go_wp2
    go_ret
    exact ⟨ret_of (congrArg Value.bool (pageI (word2_bb hz hy))), blw⟩
  by_cases q11 : m = 11
  · subst q11
    generalize hzz : peek l ((x.PC + 1) % 65536) = z at hz ⊢
    have hu := peek_b h z
    have hv := peek_b h ((z + 1) % 256)
    have e3 : IntKind.u16.wrap z = z := by rw [IntKind.wrap_u16]; omega
    have e4 : IntKind.u8.wrap (z + 1) = (z + 1) % 256 := by simp [IntKind.wrap, IntKind.bits, IntKind.signed]
    have e5 : IntKind.u16.wrap ((z + 1) % 256) = (z + 1) % 256 := by rw [IntKind.wrap_u16]; omega
    have HB := hR w; go_enter Tryz.func36, Tryz.ntmps36
    go_wp2_with fail
    refine (impl_RamOk _ _ _ _).mono ?_
    rintro _ w1 ⟨rfl, hb⟩
    (have HB := Aside0.mk (below_step (w := w) blw hb); have hz1 := hb.size; obtain ⟨hcl1, hfr1, hlt1, _⟩ := bcell hb; (try simp only [sA, sC, sD] at hz1); (try simp only [sA, sC, sD] at hcl1 hfr1 hlt1); have hk1_0 : w.heap.size < w1.heap.size := (by omega); have hk1_1 : w.heap.size + 1 < w1.heap.size := (by omega); have HB1 := hR w1; clear hb)
    go_wp2_with fail
    refine (impl_Peek _ _ _ _ _ (h.below (blw)) p0 p1).mono ?_
    rintro _ w2 ⟨rfl, hb⟩
    (have HB := Aside0.mk (below_step (w := w) blw hb); have HB1 := Aside0.mk (below_step (w := w1) blw hb); have hz2 := hb.size; obtain ⟨hcl2, hfr2, hlt2, _⟩ := bcell hb; (try simp only [sA, sC, sD] at hz2); (try simp only [sA, sC, sD] at hcl2 hfr2 hlt2); have hk2_0 : w.heap.size < w2.heap.size := (by omega); have hk2_1 : w.heap.size + 1 < w2.heap.size := (by omega); have HB2 := hR w2; clear hb)
    go_wp2_with fail
    refine (hm _ (he.below HB.out)).mono ?_
    rintro _ w3 ⟨rfl, hb⟩
    (have HB := Aside0.mk (below_step (w := w) blw hb); have HB1 := Aside0.mk (below_step (w := w1) blw hb); have HB2 := Aside0.mk (below_step (w := w2) blw hb); have hz3 := hb.size; obtain ⟨hcl3, hfr3, hlt3, _⟩ := bcell hb; (try simp only [sA, sC, sD] at hz3); (try simp only [sA, sC, sD] at hcl3 hfr3 hlt3); have hk3_0 : w.heap.size < w3.heap.size := (by omega); have hk3_1 : w.heap.size + 1 < w3.heap.size := (by omega); have HB3 := hR w3; clear hb)
    go_wp2_with fail
    refine (impl_Peek _ _ _ _ _ (h.below (blw)) (by omega) (by omega)).mono ?_
    rintro _ w4 ⟨rfl, hb⟩
    (have HB := Aside0.mk (below_step (w := w) blw hb); have HB1 := Aside0.mk (below_step (w := w1) blw hb); have HB2 := Aside0.mk (below_step (w := w2) blw hb); have HB3 := Aside0.mk (below_step (w := w3) blw hb); have hz4 := hb.size; obtain ⟨hcl4, hfr4, hlt4, _⟩ := bcell hb; (try simp only [sA, sC, sD] at hz4); (try simp only [sA, sC, sD] at hcl4 hfr4 hlt4); have hk4_0 : w.heap.size < w4.heap.size := (by omega); have hk4_1 : w.heap.size + 1 < w4.heap.size := (by omega); have HB4 := hR w4; clear hb)
    go_wp2_with fail
    go_region_held3 (fun w' => Below w.heap.size w w' ∧ w'.cell? ⟨w.heap.size, 0, none⟩ = some (.int .u8 x.A) ∧ w'.cell? ⟨w.heap.size, 1, none⟩ = some (.int .u8 x.X) ∧ w'.cell? ⟨w.heap.size, 2, none⟩ = some (.int .u8 x.Y) ∧ w'.cell? ⟨w.heap.size, 3, none⟩ = some (.int .u8 x.S) ∧ w'.cell? ⟨w.heap.size, 4, none⟩ = some (.int .u16 x.PC) ∧ w'.cell? ⟨w.heap.size, 5, none⟩ = some (.bool x.F.N) ∧ w'.cell? ⟨w.heap.size, 6, none⟩ = some (.bool x.F.V) ∧ w'.cell? ⟨w.heap.size, 7, none⟩ = some (.bool x.F.D) ∧ w'.cell? ⟨w.heap.size, 8, none⟩ = some (.bool x.F.I) ∧ w'.cell? ⟨w.heap.size, 9, none⟩ = some (.bool x.F.Z) ∧ w'.cell? ⟨w.heap.size, 10, none⟩ = some (.bool x.F.C) ∧ w'.cell? ⟨w.heap.size + 1, 0, none⟩ = some (.slice A l.length c)) (first | (go_keep; done) | (go_split_ands; (repeat' apply And.intro) <;> (first | (with_reducible assumption) | (go_simp; done) | (exact cell_keep blw (by assumption)) | exact blw))) (first | (go_at_call 76; ((with_reducible refine (impl_Peek _ _ _ _ _ (h.below (blw)) (by omega) (by omega)).mono ?_); rintro _ w6 ⟨rfl, hb⟩; have HB := Aside0.mk (below_step (w := w) blw hb); have HB4 := Aside0.mk (below_step (w := w4) blw hb); have hz6 := hb.size; obtain ⟨hcl6, hfr6, hlt6, _⟩ := bcell hb; (try simp only [sA, sC, sD] at hz6); (try simp only [sA, sC, sD] at hcl6 hfr6 hlt6); have hk6_0 : w.heap.size < w6.heap.size := (by omega); have hk6_1 : w.heap.size + 1 < w6.heap.size := (by omega); have HB6 := hR w6; clear hb)) | (go_at_call 85; ((with_reducible refine (impl_wordOf _ _ _ hz.1 hz.2 hy.1 hy.2).mono ?_); rintro _ _ ⟨rfl, rfl⟩)))
    go_wp2_with fail
    go_region_held3 (fun w' => Below w.heap.size w w' ∧ w'.cell? ⟨w.heap.size, 0, none⟩ = some (.int .u8 x.A) ∧ w'.cell? ⟨w.heap.size, 1, none⟩ = some (.int .u8 x.X) ∧ w'.cell? ⟨w.heap.size, 2, none⟩ = some (.int .u8 x.Y) ∧ w'.cell? ⟨w.heap.size, 3, none⟩ = some (.int .u8 x.S) ∧ w'.cell? ⟨w.heap.size, 4, none⟩ = some (.int .u16 x.PC) ∧ w'.cell? ⟨w.heap.size, 5, none⟩ = some (.bool x.F.N) ∧ w'.cell? ⟨w.heap.size, 6, none⟩ = some (.bool x.F.V) ∧ w'.cell? ⟨w.heap.size, 7, none⟩ = some (.bool x.F.D) ∧ w'.cell? ⟨w.heap.size, 8, none⟩ = some (.bool x.F.I) ∧ w'.cell? ⟨w.heap.size, 9, none⟩ = some (.bool x.F.Z) ∧ w'.cell? ⟨w.heap.size, 10, none⟩ = some (.bool x.F.C) ∧ w'.cell? ⟨w.heap.size + 1, 0, none⟩ = some (.slice A l.length c)) (first | (go_keep; done) | (go_split_ands; (repeat' apply And.intro) <;> (first | (with_reducible assumption) | (go_simp; done) | (exact cell_keep blw (by assumption)) | exact blw))) (first | (go_at_call 76; ((with_reducible refine (impl_Peek _ _ _ _ _ (h.below (blw)) (by omega) (by omega)).mono ?_); rintro _ w7 ⟨rfl, hb⟩; have HB := Aside0.mk (below_step (w := w) blw hb); have HB6 := Aside0.mk (below_step (w := w6) blw hb); have hz7 := hb.size; obtain ⟨hcl7, hfr7, hlt7, _⟩ := bcell hb; (try simp only [sA, sC, sD] at hz7); (try simp only [sA, sC, sD] at hcl7 hfr7 hlt7); have hk7_0 : w.heap.size < w7.heap.size := (by omega); have hk7_1 : w.heap.size + 1 < w7.heap.size := (by omega); have HB7 := hR w7; clear hb)) | (go_at_call 85; ((with_reducible refine (impl_wordOf _ _ _ hu.1 hu.2 hv.1 hv.2).mono ?_); rintro _ _ ⟨rfl, rfl⟩)))
    go_wp2
    go_ret
    exact ⟨ret_of (congrArg Value.bool (pageI (word2_bb hu hv))), blw⟩
  by_cases q12 : m = 12
  · subst q12
    obtain ⟨b, hh⟩ : ∃ b, holds x.F nm = b := ⟨_, rfl⟩
    have hk := fun W => impl_isTaken x.F nm W
    rw [hh] at hk
    rw [show crossM x l 12 nm (peek l ((x.PC + 1) % 65536)) (peek l ((x.PC + 2) % 65536)) = (b && !(pageOf ((x.PC + 2) % 65536 + offs (peek l ((x.PC + 1) % 65536))) == pageOf ((x.PC + 2) % 65536))) from by rw [← hh]; rfl]
    cases b
    · have HB := hR w; go_enter Tryz.func36, Tryz.ntmps36
      go_wp2_with fail
      refine (impl_RamOk _ _ _ _).mono ?_
      rintro _ w1 ⟨rfl, hb⟩
      (have HB := Aside0.mk (below_step (w := w) blw hb); have hz1 := hb.size; obtain ⟨hcl1, hfr1, hlt1, _⟩ := bcell hb; (try simp only [sA, sC, sD] at hz1); (try simp only [sA, sC, sD] at hcl1 hfr1 hlt1); have hk1_0 : w.heap.size < w1.heap.size := (by omega); have hk1_1 : w.heap.size + 1 < w1.heap.size := (by omega); have HB1 := hR w1; clear hb)
      go_wp2_with fail
      refine (impl_Peek _ _ _ _ _ (h.below (blw)) p0 p1).mono ?_
      rintro _ w2 ⟨rfl, hb⟩
      (have HB := Aside0.mk (below_step (w := w) blw hb); have HB1 := Aside0.mk (below_step (w := w1) blw hb); have hz2 := hb.size; obtain ⟨hcl2, hfr2, hlt2, _⟩ := bcell hb; (try simp only [sA, sC, sD] at hz2); (try simp only [sA, sC, sD] at hcl2 hfr2 hlt2); have hk2_0 : w.heap.size < w2.heap.size := (by omega); have hk2_1 : w.heap.size + 1 < w2.heap.size := (by omega); have HB2 := hR w2; clear hb)
      go_wp2_with fail
      refine (hm _ (he.below HB.out)).mono ?_
      rintro _ w3 ⟨rfl, hb⟩
      (have HB := Aside0.mk (below_step (w := w) blw hb); have HB1 := Aside0.mk (below_step (w := w1) blw hb); have HB2 := Aside0.mk (below_step (w := w2) blw hb); have hz3 := hb.size; obtain ⟨hcl3, hfr3, hlt3, _⟩ := bcell hb; (try simp only [sA, sC, sD] at hz3); (try simp only [sA, sC, sD] at hcl3 hfr3 hlt3); have hk3_0 : w.heap.size < w3.heap.size := (by omega); have hk3_1 : w.heap.size + 1 < w3.heap.size := (by omega); have HB3 := hR w3; clear hb)
      go_wp2_with fail
      refine (impl_Peek _ _ _ _ _ (h.below (blw)) (by omega) (by omega)).mono ?_
      rintro _ w4 ⟨rfl, hb⟩
      (have HB := Aside0.mk (below_step (w := w) blw hb); have HB1 := Aside0.mk (below_step (w := w1) blw hb); have HB2 := Aside0.mk (below_step (w := w2) blw hb); have HB3 := Aside0.mk (below_step (w := w3) blw hb); have hz4 := hb.size; obtain ⟨hcl4, hfr4, hlt4, _⟩ := bcell hb; (try simp only [sA, sC, sD] at hz4); (try simp only [sA, sC, sD] at hcl4 hfr4 hlt4); have hk4_0 : w.heap.size < w4.heap.size := (by omega); have hk4_1 : w.heap.size + 1 < w4.heap.size := (by omega); have HB4 := hR w4; clear hb)
      go_wp2_with fail
      go_region_held3 (fun w' => Below w.heap.size w w' ∧ w'.cell? ⟨w.heap.size, 0, none⟩ = some (.int .u8 x.A) ∧ w'.cell? ⟨w.heap.size, 1, none⟩ = some (.int .u8 x.X) ∧ w'.cell? ⟨w.heap.size, 2, none⟩ = some (.int .u8 x.Y) ∧ w'.cell? ⟨w.heap.size, 3, none⟩ = some (.int .u8 x.S) ∧ w'.cell? ⟨w.heap.size, 4, none⟩ = some (.int .u16 x.PC) ∧ w'.cell? ⟨w.heap.size, 5, none⟩ = some (.bool x.F.N) ∧ w'.cell? ⟨w.heap.size, 6, none⟩ = some (.bool x.F.V) ∧ w'.cell? ⟨w.heap.size, 7, none⟩ = some (.bool x.F.D) ∧ w'.cell? ⟨w.heap.size, 8, none⟩ = some (.bool x.F.I) ∧ w'.cell? ⟨w.heap.size, 9, none⟩ = some (.bool x.F.Z) ∧ w'.cell? ⟨w.heap.size, 10, none⟩ = some (.bool x.F.C) ∧ w'.cell? ⟨w.heap.size + 1, 0, none⟩ = some (.slice A l.length c)) (first | (go_keep; done) | (go_split_ands; (repeat' apply And.intro) <;> (first | (with_reducible assumption) | (go_simp; done) | (exact cell_keep blw (by assumption)) | exact blw))) (first | (go_at_call 76; ((with_reducible refine (impl_Peek _ _ _ _ _ (h.below (blw)) (by omega) (by omega)).mono ?_); rintro _ w6 ⟨rfl, hb⟩; have HB := Aside0.mk (below_step (w := w) blw hb); have HB4 := Aside0.mk (below_step (w := w4) blw hb); have hz6 := hb.size; obtain ⟨hcl6, hfr6, hlt6, _⟩ := bcell hb; (try simp only [sA, sC, sD] at hz6); (try simp only [sA, sC, sD] at hcl6 hfr6 hlt6); have hk6_0 : w.heap.size < w6.heap.size := (by omega); have hk6_1 : w.heap.size + 1 < w6.heap.size := (by omega); have HB6 := hR w6; clear hb)) | (go_at_call 85; ((with_reducible refine (impl_wordOf _ _ _ hz.1 hz.2 hy.1 hy.2).mono ?_); rintro _ _ ⟨rfl, rfl⟩)))
      go_wp2_with fail
      refine (hk _).mono ?_
      rintro _ w7 ⟨rfl, hb⟩
      have HB := Aside0.mk (below_step (w := w) blw hb); have HB6 := Aside0.mk (below_step (w := w6) blw hb); have hz7 := hb.size; obtain ⟨hcl7, hfr7, hlt7, _⟩ := bcell hb; (try simp only [sA, sC, sD] at hz7); (try simp only [sA, sC, sD] at hcl7 hfr7 hlt7); have hk7_0 : w.heap.size < w7.heap.size := (by omega); have hk7_1 : w.heap.size + 1 < w7.heap.size := (by omega); have HB7 := hR w7; clear hb
      go_wp2_with fail
      go_ret
      exact ⟨ret_of (congrArg Value.bool (Bool.false_and _).symm), blw⟩
    · have HB := hR w; go_enter Tryz.func36, Tryz.ntmps36
      go_wp2_with fail
      refine (impl_RamOk _ _ _ _).mono ?_
      rintro _ w1 ⟨rfl, hb⟩
      (have HB := Aside0.mk (below_step (w := w) blw hb); have hz1 := hb.size; obtain ⟨hcl1, hfr1, hlt1, _⟩ := bcell hb; (try simp only [sA, sC, sD] at hz1); (try simp only [sA, sC, sD] at hcl1 hfr1 hlt1); have hk1_0 : w.heap.size < w1.heap.size := (by omega); have hk1_1 : w.heap.size + 1 < w1.heap.size := (by omega); have HB1 := hR w1; clear hb)
      go_wp2_with fail
      refine (impl_Peek _ _ _ _ _ (h.below (blw)) p0 p1).mono ?_
      rintro _ w2 ⟨rfl, hb⟩
      (have HB := Aside0.mk (below_step (w := w) blw hb); have HB1 := Aside0.mk (below_step (w := w1) blw hb); have hz2 := hb.size; obtain ⟨hcl2, hfr2, hlt2, _⟩ := bcell hb; (try simp only [sA, sC, sD] at hz2); (try simp only [sA, sC, sD] at hcl2 hfr2 hlt2); have hk2_0 : w.heap.size < w2.heap.size := (by omega); have hk2_1 : w.heap.size + 1 < w2.heap.size := (by omega); have HB2 := hR w2; clear hb)
      go_wp2_with fail
      refine (hm _ (he.below HB.out)).mono ?_
      rintro _ w3 ⟨rfl, hb⟩
      (have HB := Aside0.mk (below_step (w := w) blw hb); have HB1 := Aside0.mk (below_step (w := w1) blw hb); have HB2 := Aside0.mk (below_step (w := w2) blw hb); have hz3 := hb.size; obtain ⟨hcl3, hfr3, hlt3, _⟩ := bcell hb; (try simp only [sA, sC, sD] at hz3); (try simp only [sA, sC, sD] at hcl3 hfr3 hlt3); have hk3_0 : w.heap.size < w3.heap.size := (by omega); have hk3_1 : w.heap.size + 1 < w3.heap.size := (by omega); have HB3 := hR w3; clear hb)
      go_wp2_with fail
      refine (impl_Peek _ _ _ _ _ (h.below (blw)) (by omega) (by omega)).mono ?_
      rintro _ w4 ⟨rfl, hb⟩
      (have HB := Aside0.mk (below_step (w := w) blw hb); have HB1 := Aside0.mk (below_step (w := w1) blw hb); have HB2 := Aside0.mk (below_step (w := w2) blw hb); have HB3 := Aside0.mk (below_step (w := w3) blw hb); have hz4 := hb.size; obtain ⟨hcl4, hfr4, hlt4, _⟩ := bcell hb; (try simp only [sA, sC, sD] at hz4); (try simp only [sA, sC, sD] at hcl4 hfr4 hlt4); have hk4_0 : w.heap.size < w4.heap.size := (by omega); have hk4_1 : w.heap.size + 1 < w4.heap.size := (by omega); have HB4 := hR w4; clear hb)
      go_wp2_with fail
      go_region_held3 (fun w' => Below w.heap.size w w' ∧ w'.cell? ⟨w.heap.size, 0, none⟩ = some (.int .u8 x.A) ∧ w'.cell? ⟨w.heap.size, 1, none⟩ = some (.int .u8 x.X) ∧ w'.cell? ⟨w.heap.size, 2, none⟩ = some (.int .u8 x.Y) ∧ w'.cell? ⟨w.heap.size, 3, none⟩ = some (.int .u8 x.S) ∧ w'.cell? ⟨w.heap.size, 4, none⟩ = some (.int .u16 x.PC) ∧ w'.cell? ⟨w.heap.size, 5, none⟩ = some (.bool x.F.N) ∧ w'.cell? ⟨w.heap.size, 6, none⟩ = some (.bool x.F.V) ∧ w'.cell? ⟨w.heap.size, 7, none⟩ = some (.bool x.F.D) ∧ w'.cell? ⟨w.heap.size, 8, none⟩ = some (.bool x.F.I) ∧ w'.cell? ⟨w.heap.size, 9, none⟩ = some (.bool x.F.Z) ∧ w'.cell? ⟨w.heap.size, 10, none⟩ = some (.bool x.F.C) ∧ w'.cell? ⟨w.heap.size + 1, 0, none⟩ = some (.slice A l.length c)) (first | (go_keep; done) | (go_split_ands; (repeat' apply And.intro) <;> (first | (with_reducible assumption) | (go_simp; done) | (exact cell_keep blw (by assumption)) | exact blw))) (first | (go_at_call 76; ((with_reducible refine (impl_Peek _ _ _ _ _ (h.below (blw)) (by omega) (by omega)).mono ?_); rintro _ w6 ⟨rfl, hb⟩; have HB := Aside0.mk (below_step (w := w) blw hb); have HB4 := Aside0.mk (below_step (w := w4) blw hb); have hz6 := hb.size; obtain ⟨hcl6, hfr6, hlt6, _⟩ := bcell hb; (try simp only [sA, sC, sD] at hz6); (try simp only [sA, sC, sD] at hcl6 hfr6 hlt6); have hk6_0 : w.heap.size < w6.heap.size := (by omega); have hk6_1 : w.heap.size + 1 < w6.heap.size := (by omega); have HB6 := hR w6; clear hb)) | (go_at_call 85; ((with_reducible refine (impl_wordOf _ _ _ hz.1 hz.2 hy.1 hy.2).mono ?_); rintro _ _ ⟨rfl, rfl⟩)))
      go_wp2_with fail
      refine (hk _).mono ?_
      rintro _ w7 ⟨rfl, hb⟩
      have HB := Aside0.mk (below_step (w := w) blw hb); have HB6 := Aside0.mk (below_step (w := w6) blw hb); have hz7 := hb.size; obtain ⟨hcl7, hfr7, hlt7, _⟩ := bcell hb; (try simp only [sA, sC, sD] at hz7); (try simp only [sA, sC, sD] at hcl7 hfr7 hlt7); have hk7_0 : w.heap.size < w7.heap.size := (by omega); have hk7_1 : w.heap.size + 1 < w7.heap.size := (by omega); have HB7 := hR w7; clear hb
      go_wp2_with (first | (go_at_call 87; ((with_reducible refine (impl_target _ _ _ hz.1 hz.2 p0 p1).mono ?_); rintro _ _ ⟨rfl, rfl⟩)))
      go_ret
      exact ⟨ret_of (congrArg Value.bool (by rw [Bool.true_and]; unfold pageOf; rw [show ((x.PC + 2) % 65536 + offs (peek l ((x.PC + 1) % 65536))) % 65536 = (x.PC + 2 + offs (peek l ((x.PC + 1) % 65536))) % 65536 from by omega, show (x.PC + 2) % 65536 % 65536 = (x.PC + 2) % 65536 from by omega]; rfl)), blw⟩
  have b7 : (m == 7) = false := beq_eq_false_iff_ne.2 q7
  have b8 : (m == 8) = false := beq_eq_false_iff_ne.2 q8
  have b11 : (m == 11) = false := beq_eq_false_iff_ne.2 q11
  have b12 : (m == 12) = false := beq_eq_false_iff_ne.2 q12
  rw [show crossM x l m nm (peek l ((x.PC + 1) % 65536)) (peek l ((x.PC + 2) % 65536)) = false from by simp [crossM, q7, q8, q11, q12]]
  have HB := hR w; go_enter Tryz.func36, Tryz.ntmps36
  go_wp2_with fail
  refine (impl_RamOk _ _ _ _).mono ?_
  rintro _ w1 ⟨rfl, hb⟩
  (have HB := Aside0.mk (below_step (w := w) blw hb); have hz1 := hb.size; obtain ⟨hcl1, hfr1, hlt1, _⟩ := bcell hb; (try simp only [sA, sC, sD] at hz1); (try simp only [sA, sC, sD] at hcl1 hfr1 hlt1); have hk1_0 : w.heap.size < w1.heap.size := (by omega); have hk1_1 : w.heap.size + 1 < w1.heap.size := (by omega); have HB1 := hR w1; clear hb)
  go_wp2_with fail
  refine (impl_Peek _ _ _ _ _ (h.below (blw)) p0 p1).mono ?_
  rintro _ w2 ⟨rfl, hb⟩
  (have HB := Aside0.mk (below_step (w := w) blw hb); have HB1 := Aside0.mk (below_step (w := w1) blw hb); have hz2 := hb.size; obtain ⟨hcl2, hfr2, hlt2, _⟩ := bcell hb; (try simp only [sA, sC, sD] at hz2); (try simp only [sA, sC, sD] at hcl2 hfr2 hlt2); have hk2_0 : w.heap.size < w2.heap.size := (by omega); have hk2_1 : w.heap.size + 1 < w2.heap.size := (by omega); have HB2 := hR w2; clear hb)
  go_wp2_with fail
  refine (hm _ (he.below HB.out)).mono ?_
  rintro _ w3 ⟨rfl, hb⟩
  (have HB := Aside0.mk (below_step (w := w) blw hb); have HB1 := Aside0.mk (below_step (w := w1) blw hb); have HB2 := Aside0.mk (below_step (w := w2) blw hb); have hz3 := hb.size; obtain ⟨hcl3, hfr3, hlt3, _⟩ := bcell hb; (try simp only [sA, sC, sD] at hz3); (try simp only [sA, sC, sD] at hcl3 hfr3 hlt3); have hk3_0 : w.heap.size < w3.heap.size := (by omega); have hk3_1 : w.heap.size + 1 < w3.heap.size := (by omega); have HB3 := hR w3; clear hb)
  go_wp2_with fail
  refine (impl_Peek _ _ _ _ _ (h.below (blw)) (by omega) (by omega)).mono ?_
  rintro _ w4 ⟨rfl, hb⟩
  (have HB := Aside0.mk (below_step (w := w) blw hb); have HB1 := Aside0.mk (below_step (w := w1) blw hb); have HB2 := Aside0.mk (below_step (w := w2) blw hb); have HB3 := Aside0.mk (below_step (w := w3) blw hb); have hz4 := hb.size; obtain ⟨hcl4, hfr4, hlt4, _⟩ := bcell hb; (try simp only [sA, sC, sD] at hz4); (try simp only [sA, sC, sD] at hcl4 hfr4 hlt4); have hk4_0 : w.heap.size < w4.heap.size := (by omega); have hk4_1 : w.heap.size + 1 < w4.heap.size := (by omega); have HB4 := hR w4; clear hb)
  go_wp2_with fail
  go_region_held3 (fun w' => Below w.heap.size w w' ∧ w'.cell? ⟨w.heap.size, 0, none⟩ = some (.int .u8 x.A) ∧ w'.cell? ⟨w.heap.size, 1, none⟩ = some (.int .u8 x.X) ∧ w'.cell? ⟨w.heap.size, 2, none⟩ = some (.int .u8 x.Y) ∧ w'.cell? ⟨w.heap.size, 3, none⟩ = some (.int .u8 x.S) ∧ w'.cell? ⟨w.heap.size, 4, none⟩ = some (.int .u16 x.PC) ∧ w'.cell? ⟨w.heap.size, 5, none⟩ = some (.bool x.F.N) ∧ w'.cell? ⟨w.heap.size, 6, none⟩ = some (.bool x.F.V) ∧ w'.cell? ⟨w.heap.size, 7, none⟩ = some (.bool x.F.D) ∧ w'.cell? ⟨w.heap.size, 8, none⟩ = some (.bool x.F.I) ∧ w'.cell? ⟨w.heap.size, 9, none⟩ = some (.bool x.F.Z) ∧ w'.cell? ⟨w.heap.size, 10, none⟩ = some (.bool x.F.C) ∧ w'.cell? ⟨w.heap.size + 1, 0, none⟩ = some (.slice A l.length c)) (first | (go_keep; done) | (go_split_ands; (repeat' apply And.intro) <;> (first | (with_reducible assumption) | (go_simp; done) | (exact cell_keep blw (by assumption)) | exact blw))) (first | (go_at_call 76; ((with_reducible refine (impl_Peek _ _ _ _ _ (h.below (blw)) (by omega) (by omega)).mono ?_); rintro _ w6 ⟨rfl, hb⟩; have HB := Aside0.mk (below_step (w := w) blw hb); have HB4 := Aside0.mk (below_step (w := w4) blw hb); have hz6 := hb.size; obtain ⟨hcl6, hfr6, hlt6, _⟩ := bcell hb; (try simp only [sA, sC, sD] at hz6); (try simp only [sA, sC, sD] at hcl6 hfr6 hlt6); have hk6_0 : w.heap.size < w6.heap.size := (by omega); have hk6_1 : w.heap.size + 1 < w6.heap.size := (by omega); have HB6 := hR w6; clear hb)) | (go_at_call 85; ((with_reducible refine (impl_wordOf _ _ _ hz.1 hz.2 hy.1 hy.2).mono ?_); rintro _ _ ⟨rfl, rfl⟩)))
  go_wp2
  go_ret
  exact ⟨rfl, blw⟩
end Go.Proofs.YtbffbinipipkkaaGreatDoor
