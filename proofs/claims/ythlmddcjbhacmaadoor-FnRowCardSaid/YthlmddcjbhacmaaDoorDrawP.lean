/- Drawn rows, and what is known of them. -/
import Derived.Test.YthlmddcjbhacmaaDoorDrawC
import Derived.Test.YthlmddcjbhacmaaDoorKnowS
import Derived.Test.YthlmddcjbhacmaaDoorKnowP
import Derived.Test.YthlmddcjbhacmaaDoorRowN
set_option linter.unusedVariables false
set_option linter.unusedSimpArgs false
namespace Go.Proofs.YthlmddcjbhacmaaDoor
open Go.RowKit Go.Proofs.YthlmddcjbhacmaaDoorW.PrintWords
set_option maxHeartbeats 400000 in
theorem spec_l01Pick (g : Nat) (A : Option Addr) (c : Nat) (l : List Int) (b n d : Nat) (w : World) (h : Cur w g A c l) (hl : l.length ≤ 1048576) (hn : 0 < n) (hn2 : n ≤ 1000) (hb : b ≠ g)
    (hs : ∀ j < n, ∃ t : List UInt8, t.length ≤ 1000 ∧ w.cell? ⟨b, j, none⟩ = some (.string ⟨t.toArray⟩)) :
    Calls Tryd.prog 36 #[.pointer (some ⟨g, 0, none⟩), .slice (some ⟨b, 0, none⟩) n d] w fun e w' => ∃ t : List UInt8, t.length ≤ 1000 ∧ e = .returned (.string ⟨t.toArray⟩) ∧ Cur w' g A c l ∧ w.grownBy w' (some g) := by
  have HS := Aside0.mk hs
  clear hs
  have HB := hR w; go_enter Tryd.func36, Tryd.ntmps36
  go_wp2_with fail
  refine (spec_l01Below _ _ _ _ _ _ h hl (by omega) (by omega)).mono ?_
  rintro _ w1 ⟨x, rfl, x0, x1, hc, hb1⟩
  have x2 := x1 (by omega)
  obtain ⟨j, rfl⟩ := Int.eq_ofNat_of_zero_le x0
  obtain ⟨t, ht, hx⟩ := HS.out j (by omega)
  have hx1 := hb1.cell hx (by intro e; injection e with e; exact hb e)
  clear hx
  go_wp2
  go_ret
  exact ⟨t, ht, rfl, hc, hb1⟩
theorem kn_set {W : World} {g : Nat} {k : Kn} (h : Blk W g #[.int .i64 k.A, .int .i64 k.X, .int .i64 k.Y, .int .i64 k.S, .int .i64 k.PC, .int .i64 k.N, .int .i64 k.V, .int .i64 k.D, .int .i64 k.I, .int .i64 k.Z, .int .i64 k.C] 3) (i : Nat) (hi : i < 11) (v : Int) : ∃ k' : Kn, Blk (W.setCell ⟨g, i, none⟩ (.int .i64 v)) g #[.int .i64 k'.A, .int .i64 k'.X, .int .i64 k'.Y, .int .i64 k'.S, .int .i64 k'.PC, .int .i64 k'.N, .int .i64 k'.V, .int .i64 k'.D, .int .i64 k'.I, .int .i64 k'.Z, .int .i64 k'.C] 3 := by
  have : i = 0 ∨ i = 1 ∨ i = 2 ∨ i = 3 ∨ i = 4 ∨ i = 5 ∨ i = 6 ∨ i = 7 ∨ i = 8 ∨ i = 9 ∨ i = 10 := by omega
  rcases this with rfl | rfl | rfl | rfl | rfl | rfl | rfl | rfl | rfl | rfl | rfl
  · exact ⟨{ k with A := v }, blk_set h 0 _⟩
  · exact ⟨{ k with X := v }, blk_set h 1 _⟩
  · exact ⟨{ k with Y := v }, blk_set h 2 _⟩
  · exact ⟨{ k with S := v }, blk_set h 3 _⟩
  · exact ⟨{ k with PC := v }, blk_set h 4 _⟩
  · exact ⟨{ k with N := v }, blk_set h 5 _⟩
  · exact ⟨{ k with V := v }, blk_set h 6 _⟩
  · exact ⟨{ k with D := v }, blk_set h 7 _⟩
  · exact ⟨{ k with I := v }, blk_set h 8 _⟩
  · exact ⟨{ k with Z := v }, blk_set h 9 _⟩
  · exact ⟨{ k with C := v }, blk_set h 10 _⟩
theorem kn_at {W : World} {g : Nat} {k : Kn} (h : Blk W g #[.int .i64 k.A, .int .i64 k.X, .int .i64 k.Y, .int .i64 k.S, .int .i64 k.PC, .int .i64 k.N, .int .i64 k.V, .int .i64 k.D, .int .i64 k.I, .int .i64 k.Z, .int .i64 k.C] 3) (i : Nat) (hi : i < 11) : ∃ v : Int, W.cell? ⟨g, i, none⟩ = some (.int .i64 v) := by
  have : i = 0 ∨ i = 1 ∨ i = 2 ∨ i = 3 ∨ i = 4 ∨ i = 5 ∨ i = 6 ∨ i = 7 ∨ i = 8 ∨ i = 9 ∨ i = 10 := by omega
  rcases this with rfl | rfl | rfl | rfl | rfl | rfl | rfl | rfl | rfl | rfl | rfl <;> exact ⟨_, h.cell _⟩
theorem kn_of {W : World} {g : Nat} {k : Kn} (cap : Nat) (h : Blk W g #[.int .i64 k.A, .int .i64 k.X, .int .i64 k.Y, .int .i64 k.S, .int .i64 k.PC, .int .i64 k.N, .int .i64 k.V, .int .i64 k.D, .int .i64 k.I, .int .i64 k.Z, .int .i64 k.C] 3) : Calls Tryd.prog 66 #[.slice (some ⟨g, 0, none⟩) 11 cap] W fun e w' => e = .returned (.agg #[.int .i64 k.A, .int .i64 k.X, .int .i64 k.Y, .int .i64 k.S, .int .i64 k.PC, .int .i64 k.N, .int .i64 k.V, .int .i64 k.D, .int .i64 k.I, .int .i64 k.Z, .int .i64 k.C]) ∧ Below W.heap.size W w' :=
  spec_l09OfK g cap k W (h.cell 0) (h.cell 1) (h.cell 2) (h.cell 3) (h.cell 4) (h.cell 5) (h.cell 6) (h.cell 7) (h.cell 8) (h.cell 9) (h.cell 10)
set_option maxRecDepth 100000 in
set_option maxHeartbeats 4000000 in
theorem spec_l09Part (g : Nat) (A : Option Addr) (c : Nat) (l : List Int) (p : Cpu) (hp : p.ok) (w : World) (h : Cur w g A c l) (hl : l.length ≤ 1048576) :
    Calls Tryd.prog 64 #[.pointer (some ⟨g, 0, none⟩), .agg #[.int .u8 p.A, .int .u8 p.X, .int .u8 p.Y, .int .u8 p.S, .int .u16 p.PC, .bool p.F.N, .bool p.F.V, .bool p.F.D, .bool p.F.I, .bool p.F.Z, .bool p.F.C]] w fun e w' => ∃ k : Kn, e = .returned (.agg #[.int .i64 k.A, .int .i64 k.X, .int .i64 k.Y, .int .i64 k.S, .int .i64 k.PC, .int .i64 k.N, .int .i64 k.V, .int .i64 k.D, .int .i64 k.I, .int .i64 k.Z, .int .i64 k.C]) ∧ Cur w' g A c l ∧ w.grownBy w' (some g) := by
  have hg0 : g < w.heap.size := World.block_lt_of_cell? w _ h.b
  have HB := hR w; go_enter Tryd.func64, Tryd.ntmps64
  go_wp2_with fail
  refine Calls.mono (spec_KnowOf p _ hp) ?_
  rintro _ w1 ⟨rfl, hb⟩
  have Z1 : Blk w1 (w.heap.size + 1) #[.int .i64 0, .int .i64 0, .int .i64 0, .int .i64 0, .int .i64 0, .int .i64 0, .int .i64 0, .int .i64 0, .int .i64 0, .int .i64 0, .int .i64 0] 32 := (Blk.at (by simp)).below hb
  have C1 : Cur w1 g A c l := (h.below (blw)).below hb
  have G1 : w.grownBy w1 (some g) := grown_below (by (repeat (first | (with_reducible exact grown_refl _ _) | (with_reducible assumption) | (with_reducible apply grown_alloc) | (with_reducible apply grown_drew) | (with_reducible apply grown_drewN) | (with_reducible apply grown_set)))) hb
  have s1 := Z1.lt
  clear hb
  go_wp2_with fail
  refine Calls.mono (spec_l09List ⟨p.A, p.X, p.Y, p.S, p.PC, b2i p.F.N, b2i p.F.V, b2i p.F.D, b2i p.F.I, b2i p.F.Z, b2i p.F.C⟩ _) ?_
  rintro _ w2 ⟨g1, rfl, hg1, K2, hb⟩
  obtain ⟨k2, K2⟩ : ∃ k : Kn, Blk w2 g1 #[.int .i64 k.A, .int .i64 k.X, .int .i64 k.Y, .int .i64 k.S, .int .i64 k.PC, .int .i64 k.N, .int .i64 k.V, .int .i64 k.D, .int .i64 k.I, .int .i64 k.Z, .int .i64 k.C] 3 := ⟨_, K2⟩
  have Z2 := Z1.below hb
  have C2 := C1.below hb
  have G2 := grown_below G1 hb
  have hg2 := C2.b
  clear hb Z1 C1 G1 hg2
  go_wp2_with fail
  refine Calls.mono (spec_l01Below g A c l 4 _ C2 hl (by omega) (by omega)) ?_
  rintro _ w3 ⟨x, rfl, x0, x1, C3, hb3⟩
  have x2 := x1 (by omega)
  have HZ := Aside0.mk (Z2.grown hb3 (by intro e; injection e with e; omega))
  have HK := Aside0.mk (⟨_, K2.grown hb3 (by intro e; injection e with e; omega)⟩ : ∃ k : Kn, Blk w3 g1 #[.int .i64 k.A, .int .i64 k.X, .int .i64 k.Y, .int .i64 k.S, .int .i64 k.PC, .int .i64 k.N, .int .i64 k.V, .int .i64 k.D, .int .i64 k.I, .int .i64 k.Z, .int .i64 k.C] 3)
  have HG := Aside0.mk (G2.trans hb3)
  have HC := Aside0.mk C3
  clear hb3 C3 C2 G2 Z2 K2 x1
  go_wp2_with fail
  go_loopw [7] (fun v7 wr => ∃ i : Nat, i ≤ 11 ∧ v7 = .int .i64 i ∧ Aside0 (∃ k : Kn, Blk wr g1 #[.int .i64 k.A, .int .i64 k.X, .int .i64 k.Y, .int .i64 k.S, .int .i64 k.PC, .int .i64 k.N, .int .i64 k.V, .int .i64 k.D, .int .i64 k.I, .int .i64 k.Z, .int .i64 k.C] 3) ∧ Aside0 (Blk wr (w.heap.size + 1) #[.int .i64 0, .int .i64 0, .int .i64 0, .int .i64 0, .int .i64 0, .int .i64 0, .int .i64 0, .int .i64 0, .int .i64 0, .int .i64 0, .int .i64 0] 32) ∧ Aside0 (Cur wr g A c l) ∧ Aside0 (w.grownBy wr (some g))) (fun v7 _ => 11 - (intOf v7).toNat)
  case atStart => exact ⟨0, by omega, rfl, HK, HZ, HC, HG⟩
  case round =>
    obtain ⟨i, hi, rfl, HK, HZ, HC, HG⟩ := hrel
    obtain ⟨k, K⟩ := HK.out
    by_cases hlt : i < 11
    · have K := Aside0.mk K
      go_wp2_with fail
      refine Calls.mono (spec_l01Below g A c l 5 _ HC.out hl (by omega) (by omega)) ?_
      rintro _ w5 ⟨y, rfl, y0, y1, C5, hb5⟩
      have Z5 := Aside0.mk (HZ.out.grown hb5 (by intro e; injection e with e; omega))
      have K5 := K.out.grown hb5 (by intro e; injection e with e; omega)
      have G5 := Aside0.mk (HG.out.trans hb5)
      obtain ⟨v, hv⟩ := kn_at K5 i hlt
      have hf := K5.free i
      obtain ⟨k', K6⟩ := kn_set K5 i hlt (-1)
      have K5 := Aside0.mk K5
      have K6 := Aside0.mk K6
      have C5 := Aside0.mk C5
      clear hb5 y1
      by_cases hy : 1 + x ≤ y
      · go_wp2_with fail
        exact ⟨⟨i + 1, by omega, by go_num, ⟨_, K6.out⟩, ⟨Z5.out.far (by omega)⟩, ⟨C5.out.away (grown_set (grown_refl w5 _) i _) (fun k e => by injection e with e; omega)⟩, ⟨grown_new G5.out (by omega) i _⟩⟩, by simp [intOf]; omega⟩
      · go_wp2_with fail
        exact ⟨⟨i + 1, by omega, by go_num, ⟨_, K5.out⟩, Z5, C5, G5⟩, by simp [intOf]; omega⟩
    · have K := Aside0.mk K
      go_wp2_with fail
      refine Calls.mono (kn_of 11 K.out) ?_
      rintro _ w9 ⟨rfl, hb⟩
      have Z9 := HZ.out.below hb
      have C9 := HC.out.below hb
      have G9 := grown_below HG.out hb
      have hg9 : g < w9.heap.size := World.block_lt_of_cell? w9 _ C9.b
      have C9 := Aside0.mk C9
      have G9 := Aside0.mk G9
      have c0 := Z9.cell 0
      have c1 := Z9.cell 1
      have c2 := Z9.cell 2
      have c3 := Z9.cell 3
      have c4 := Z9.cell 4
      have c5 := Z9.cell 5
      have c6 := Z9.cell 6
      have c7 := Z9.cell 7
      have c8 := Z9.cell 8
      have c9 := Z9.cell 9
      have c10 := Z9.cell 10
      simp at c0 c1 c2 c3 c4 c5 c6 c7 c8 c9 c10
      have fz := fun i => Z9.free i
      clear hb Z9
      go_wp2_with fail
      (refine bodyPost_ret (v := .agg #[.int .i64 k.A, .int .i64 k.X, .int .i64 k.Y, .int .i64 k.S, .int .i64 k.PC, .int .i64 k.N, .int .i64 k.V, .int .i64 k.D, .int .i64 k.I, .int .i64 k.Z, .int .i64 k.C]) (by (simp only [results, Tryd.results64]; go_simp <;> (rfl))) rfl ?_)
      exact ⟨k, rfl, C9.out.away (grown_set (grown_set (grown_set (grown_set (grown_set (grown_set (grown_set (grown_set (grown_set (grown_set (grown_set (grown_refl w9 _) 0 _) 1 _) 2 _) 3 _) 4 _) 5 _) 6 _) 7 _) 8 _) 9 _) 10 _) (fun k e => by injection e with e; omega), (grown_new (grown_new (grown_new (grown_new (grown_new (grown_new (grown_new (grown_new (grown_new (grown_new (grown_new G9.out (by omega) 0 _) (by omega) 1 _) (by omega) 2 _) (by omega) 3 _) (by omega) 4 _) (by omega) 5 _) (by omega) 6 _) (by omega) 7 _) (by omega) 8 _) (by omega) 9 _) (by omega) 10 _)⟩
set_option maxRecDepth 100000 in
set_option maxHeartbeats 4000000 in
theorem spec_l09Any (g : Nat) (A : Option Addr) (c : Nat) (l : List Int) (p : Cpu) (hp : p.ok) (w : World) (h : Cur w g A c l) (hl : l.length ≤ 1048576) :
    Calls Tryd.prog 35 #[.pointer (some ⟨g, 0, none⟩), .agg #[.int .u8 p.A, .int .u8 p.X, .int .u8 p.Y, .int .u8 p.S, .int .u16 p.PC, .bool p.F.N, .bool p.F.V, .bool p.F.D, .bool p.F.I, .bool p.F.Z, .bool p.F.C]] w fun e w' => ∃ k : Kn, e = .returned (.agg #[.int .i64 k.A, .int .i64 k.X, .int .i64 k.Y, .int .i64 k.S, .int .i64 k.PC, .int .i64 k.N, .int .i64 k.V, .int .i64 k.D, .int .i64 k.I, .int .i64 k.Z, .int .i64 k.C]) ∧ Cur w' g A c l ∧ w.grownBy w' (some g) := by
  have hg0 : g < w.heap.size := World.block_lt_of_cell? w _ h.b
  have HB := hR w; go_enter Tryd.func35, Tryd.ntmps35
  go_wp2_with fail
  refine Calls.mono (spec_l09Part g A c l p hp _ (h.below (blw)) hl) ?_
  rintro _ w1 ⟨k1, rfl, C1, hb⟩
  have Z1 : Blk w1 (w.heap.size + 1) #[.int .i64 0, .int .i64 0, .int .i64 0, .int .i64 0, .int .i64 0, .int .i64 0, .int .i64 0, .int .i64 0, .int .i64 0, .int .i64 0, .int .i64 0] 32 := (Blk.at (by simp)).grown hb (by intro e; injection e with e; omega)
  have G1 : w.grownBy w1 (some g) := grown_al _ (grown_al _ hb)
  have s1 := Z1.lt
  clear hb
  go_wp2_with fail
  refine Calls.mono (spec_l09List k1 _) ?_
  rintro _ w2 ⟨g1, rfl, hg1, K2, hb⟩
  have Z2 := Z1.below hb
  have C2 := C1.below hb
  have G2 := grown_below G1 hb
  clear hb Z1 C1 G1
  go_wp2_with fail
  refine Calls.mono (spec_l01Once g A c l 4 _ C2 hl (by omega) (by omega)) ?_
  rintro _ w3 ⟨b, rfl, C3, hb3⟩
  have HZ := Aside0.mk (Z2.grown hb3 (by intro e; injection e with e; omega))
  have HK := Aside0.mk (K2.grown hb3 (by intro e; injection e with e; omega))
  have HG := Aside0.mk (G2.trans hb3)
  have HC := Aside0.mk C3
  clear hb3 C3 C2 G2 Z2 K2
  cases b
  · go_wp2_with fail
    refine Calls.mono (kn_of 11 HK.out) ?_
    rintro _ w9 ⟨rfl, hb⟩
    have Z9 := HZ.out.below hb
    have C9 := HC.out.below hb
    have G9 := grown_below HG.out hb
    have hg9 : g < w9.heap.size := World.block_lt_of_cell? w9 _ C9.b
    have C9 := Aside0.mk C9
    have G9 := Aside0.mk G9
    have c0 := Z9.cell 0
    have c1 := Z9.cell 1
    have c2 := Z9.cell 2
    have c3 := Z9.cell 3
    have c4 := Z9.cell 4
    have c5 := Z9.cell 5
    have c6 := Z9.cell 6
    have c7 := Z9.cell 7
    have c8 := Z9.cell 8
    have c9 := Z9.cell 9
    have c10 := Z9.cell 10
    simp at c0 c1 c2 c3 c4 c5 c6 c7 c8 c9 c10
    have fz := fun i => Z9.free i
    clear hb Z9
    go_wp2_with fail
    (refine bodyPost_ret (v := .agg #[.int .i64 k1.A, .int .i64 k1.X, .int .i64 k1.Y, .int .i64 k1.S, .int .i64 k1.PC, .int .i64 k1.N, .int .i64 k1.V, .int .i64 k1.D, .int .i64 k1.I, .int .i64 k1.Z, .int .i64 k1.C]) (by (simp only [results, Tryd.results35]; go_simp <;> (rfl))) rfl ?_)
    exact ⟨k1, rfl, C9.out.away (grown_set (grown_set (grown_set (grown_set (grown_set (grown_set (grown_set (grown_set (grown_set (grown_set (grown_set (grown_refl w9 _) 0 _) 1 _) 2 _) 3 _) 4 _) 5 _) 6 _) 7 _) 8 _) 9 _) 10 _) (fun k e => by injection e with e; omega), (grown_new (grown_new (grown_new (grown_new (grown_new (grown_new (grown_new (grown_new (grown_new (grown_new (grown_new G9.out (by omega) 0 _) (by omega) 1 _) (by omega) 2 _) (by omega) 3 _) (by omega) 4 _) (by omega) 5 _) (by omega) 6 _) (by omega) 7 _) (by omega) 8 _) (by omega) 9 _) (by omega) 10 _)⟩
  · go_wp2_with fail
    refine Calls.mono (spec_l01Below g A c l 11 _ HC.out hl (by omega) (by omega)) ?_
    rintro _ w4 ⟨y, rfl, y0, y1, C4, hb4⟩
    have y2 := y1 (by omega)
    obtain ⟨i, rfl⟩ := Int.eq_ofNat_of_zero_le y0
    have hi : i < 11 := by omega
    replace HZ := Aside0.mk (HZ.out.grown hb4 (by intro e; injection e with e; omega))
    replace HK := Aside0.mk (HK.out.grown hb4 (by intro e; injection e with e; omega))
    replace HG := Aside0.mk (HG.out.trans hb4)
    have hg4 : g < w4.heap.size := World.block_lt_of_cell? w4 _ C4.b
    have s4 := HK.out.lt
    have HC := Aside0.mk C4
    clear hb4 C4 y1
    go_wp2_with fail
    refine (spec_l01PickInt g A c l (some ⟨w4.heap.size, 0, none⟩) 8 [0, 1, 2, 255, 256, -2, 65536, 65535] _ (HC.out.below (blw)) hl (C_alloc _ _ _ (by decide)) (by decide) (by decide) (fun ad e => by injection e with e; subst e; simp; omega)).mono ?_
    rintro _ w5 ⟨q, hq, rfl, C5, hb5⟩
    generalize rd [0, 1, 2, 255, 256, -2, 65536, 65535] q = u
    have hb5 := grown_al _ hb5
    have Z5 := Aside0.mk (HZ.out.grown hb5 (by intro e; injection e with e; omega))
    have K5 := HK.out.grown hb5 (by intro e; injection e with e; omega)
    have G5 := Aside0.mk (HG.out.trans hb5)
    obtain ⟨v, hv⟩ := kn_at K5 i hi
    have hf := K5.free i
    obtain ⟨k', K6⟩ := kn_set K5 i hi u
    have K6 := Aside0.mk K6
    have hg5 : g < w5.heap.size := World.block_lt_of_cell? w5 _ C5.b
    have C5 := Aside0.mk C5
    clear hb5 K5
    go_wp2_with fail
    refine Calls.mono (kn_of 11 K6.out) ?_
    rintro _ w9 ⟨rfl, hb⟩
    have Z9 := (Z5.out.far (k := g1) (i := i) (u := .int .i64 u) (by omega)).below hb
    have C9 := (C5.out.away (grown_set (g := g1) (grown_refl w5 _) i (.int .i64 u)) (fun k e => by injection e with e; omega)).below hb
    have G9 := grown_below (grown_new (r := g1) G5.out (by omega) i (.int .i64 u)) hb
    have hg9 : g < w9.heap.size := World.block_lt_of_cell? w9 _ C9.b
    have C9 := Aside0.mk C9
    have G9 := Aside0.mk G9
    clear hv hf
    have c0 := Z9.cell 0
    have c1 := Z9.cell 1
    have c2 := Z9.cell 2
    have c3 := Z9.cell 3
    have c4 := Z9.cell 4
    have c5 := Z9.cell 5
    have c6 := Z9.cell 6
    have c7 := Z9.cell 7
    have c8 := Z9.cell 8
    have c9 := Z9.cell 9
    have c10 := Z9.cell 10
    simp at c0 c1 c2 c3 c4 c5 c6 c7 c8 c9 c10
    have fz := fun i => Z9.free i
    clear hb Z9
    go_wp2_with fail
    (refine bodyPost_ret (v := .agg #[.int .i64 k'.A, .int .i64 k'.X, .int .i64 k'.Y, .int .i64 k'.S, .int .i64 k'.PC, .int .i64 k'.N, .int .i64 k'.V, .int .i64 k'.D, .int .i64 k'.I, .int .i64 k'.Z, .int .i64 k'.C]) (by (simp only [results, Tryd.results35]; go_simp <;> (rfl))) rfl ?_)
    exact ⟨k', rfl, C9.out.away (grown_set (grown_set (grown_set (grown_set (grown_set (grown_set (grown_set (grown_set (grown_set (grown_set (grown_set (grown_refl w9 _) 0 _) 1 _) 2 _) 3 _) 4 _) 5 _) 6 _) 7 _) 8 _) 9 _) 10 _) (fun k e => by injection e with e; omega), (grown_new (grown_new (grown_new (grown_new (grown_new (grown_new (grown_new (grown_new (grown_new (grown_new (grown_new G9.out (by omega) 0 _) (by omega) 1 _) (by omega) 2 _) (by omega) 3 _) (by omega) 4 _) (by omega) 5 _) (by omega) 6 _) (by omega) 7 _) (by omega) 8 _) (by omega) 9 _) (by omega) 10 _)⟩
theorem six_b (x : Int) (h0 : 0 ≤ x) (h1 : x < 1000) (q : Nat) (hq : q < 6) : -1 ≤ rd [0, 5, 999999999, 1000000000, -1, x] q ∧ rd [0, 5, 999999999, 1000000000, -1, x] q ≤ 1000000000 := by
  have : q = 0 ∨ q = 1 ∨ q = 2 ∨ q = 3 ∨ q = 4 ∨ q = 5 := by omega
  rcases this with rfl | rfl | rfl | rfl | rfl | rfl <;> simp [rd] <;> omega
theorem str4 (W : World) (e : TypeId) (t0 t1 t2 t3 : List UInt8) (h0 : t0.length ≤ 1000) (h1 : t1.length ≤ 1000) (h2 : t2.length ≤ 1000) (h3 : t3.length ≤ 1000) :
    ∀ j < 4, ∃ t : List UInt8, t.length ≤ 1000 ∧ (W.alloc (.cells #[.string ⟨t0.toArray⟩, .string ⟨t1.toArray⟩, .string ⟨t2.toArray⟩, .string ⟨t3.toArray⟩] e)).cell? ⟨W.heap.size, j, none⟩ = some (.string ⟨t.toArray⟩) := by
  intro j hj
  have : j = 0 ∨ j = 1 ∨ j = 2 ∨ j = 3 := by omega
  rcases this with rfl | rfl | rfl | rfl
  · exact ⟨t0, h0, by rw [World.cell?_alloc_new]; rfl⟩
  · exact ⟨t1, h1, by rw [World.cell?_alloc_new]; rfl⟩
  · exact ⟨t2, h2, by rw [World.cell?_alloc_new]; rfl⟩
  · exact ⟨t3, h3, by rw [World.cell?_alloc_new]; rfl⟩
set_option maxRecDepth 100000 in
set_option maxHeartbeats 4000000 in
theorem spec_DrawRow (A : Option Addr) (c : Nat) (l : List Int) (w : World) (h : Bs w A l) (hl : l.length ≤ 1048576) :
    Calls Tryd.prog 12 #[.slice A l.length c] w fun e w' => ∃ (i : Int) (k : Kn) (t : List UInt8), e = .returned (.tuple #[.int .i64 i, .agg #[.int .i64 k.A, .int .i64 k.X, .int .i64 k.Y, .int .i64 k.S, .int .i64 k.PC, .int .i64 k.N, .int .i64 k.V, .int .i64 k.D, .int .i64 k.I, .int .i64 k.Z, .int .i64 k.C], .string ⟨t.toArray⟩]) ∧ -1 ≤ i ∧ i ≤ 1000000000 ∧ t.length ≤ 1000 ∧ Below w.heap.size w w' := by
  have HB := hR w; go_enter Tryd.func12, Tryd.ntmps12
  go_wp2_with fail
  refine (spec_l01New A c l _ (h.below (blw)) hl).mono ?_
  rintro _ w1 ⟨g, rfl, hg1, C1, hb⟩
  have Z1 : Blk w1 w.heap.size #[.int .i64 0, .int .i64 0, .int .i64 0, .int .i64 0, .int .i64 0, .int .i64 0, .int .i64 0, .int .i64 0, .int .i64 0, .int .i64 0, .int .i64 0] 32 := (Blk.at rfl).below hb
  have B1 : Below w.heap.size w w1 := below_step (blw) hb
  have s1 := Z1.lt
  have hg : w.heap.size < g := by simp at hg1; omega
  have hgl1 : g < w1.heap.size := World.block_lt_of_cell? w1 _ C1.b
  clear hb hg1
  go_wp2_with fail
  refine Calls.mono (spec_l05Cpu g A c l _ C1 hl) ?_
  rintro _ w2 ⟨p, hp, rfl, C2, hb2⟩
  have Z2 := Z1.grown hb2 (by intro e; injection e with e; omega)
  have B2 : Below w.heap.size w w2 := Below.grown B1 hb2 (by omega) (fun k e => by injection e with e; omega)
  have s2 := Z2.lt
  have hgl2 : g < w2.heap.size := World.block_lt_of_cell? w2 _ C2.b
  clear hb2 Z1 B1 C1 hgl1 s1
  go_wp2_with fail
  refine Calls.mono (spec_l01Below g A c l 1000 _ (C2.below (blw)) hl (by omega) (by omega)) ?_
  rintro _ w3 ⟨x, rfl, x0, x1, C3, hb3⟩
  have x2 := x1 (by omega)
  have P3 : Blk w3 w2.heap.size #[.int .u8 p.A, .int .u8 p.X, .int .u8 p.Y, .int .u8 p.S, .int .u16 p.PC, .bool p.F.N, .bool p.F.V, .bool p.F.D, .bool p.F.I, .bool p.F.Z, .bool p.F.C] 59 := (Blk.at rfl).grown hb3 (by intro e; injection e with e; omega)
  have Z3 : Blk w3 w.heap.size #[.int .i64 0, .int .i64 0, .int .i64 0, .int .i64 0, .int .i64 0, .int .i64 0, .int .i64 0, .int .i64 0, .int .i64 0, .int .i64 0, .int .i64 0] 32 := (Z2.alloc _).grown hb3 (by intro e; injection e with e; omega)
  have B3 : Below w.heap.size w w3 := Below.grown B2 (grown_al _ hb3) (by omega) (fun k e => by injection e with e; omega)
  have s3 := P3.lt
  have hgl3 : g < w3.heap.size := World.block_lt_of_cell? w3 _ C3.b
  clear hb3 Z2 B2 C2 x1
  go_wp2_with fail
  refine (spec_l01PickInt g A c l (some ⟨w3.heap.size, 0, none⟩) 6 [0, 5, 999999999, 1000000000, -1, x] _ (C3.below (blw)) hl (C_alloc _ _ _ (by simp)) (by simp) (by simp) (fun ad e => by injection e with e; subst e; simp; omega)).mono ?_
  rintro _ w4 ⟨q, hq, rfl, C4, hb4⟩
  have hi := six_b x x0 x2 q hq
  generalize rd [0, 5, 999999999, 1000000000, -1, x] q = i at *
  have hb4 := grown_al _ hb4
  have P4 := P3.grown hb4 (by intro e; injection e with e; omega)
  have Z4 := Z3.grown hb4 (by intro e; injection e with e; omega)
  have B4 : Below w.heap.size w w4 := Below.grown B3 hb4 (by omega) (fun k e => by injection e with e; omega)
  have s4 := P4.lt
  have hgl4 : g < w4.heap.size := World.block_lt_of_cell? w4 _ C4.b
  have d0 := P4.cell 0
  have d1 := P4.cell 1
  have d2 := P4.cell 2
  have d3 := P4.cell 3
  have d4 := P4.cell 4
  have d5 := P4.cell 5
  have d6 := P4.cell 6
  have d7 := P4.cell 7
  have d8 := P4.cell 8
  have d9 := P4.cell 9
  have d10 := P4.cell 10
  simp at d0 d1 d2 d3 d4 d5 d6 d7 d8 d9 d10
  clear hb4 Z3 B3 C3 P3 P4
  go_wp2_with fail
  refine Calls.mono (spec_l09Any g A c l p hp _ C4 hl) ?_
  rintro _ w5 ⟨k, rfl, C5, hb5⟩
  have Z5 := Z4.grown hb5 (by intro e; injection e with e; omega)
  have B5 : Below w.heap.size w w5 := Below.grown B4 hb5 (by omega) (fun k e => by injection e with e; omega)
  have s5 := Z5.lt
  have hgl5 : g < w5.heap.size := World.block_lt_of_cell? w5 _ C5.b
  clear hb5 Z4 B4 C4 d0 d1 d2 d3 d4 d5 d6 d7 d8 d9 d10
  go_wp2_with fail
  refine Calls.mono (spec_l01Pick g A c l w5.heap.size 4 4 _ (C5.below (blw)) hl (by decide) (by decide) (by omega) (str4 _ _ _ _ _ _ (by decide) (by decide) (by decide) (by decide))) ?_
  rintro _ w6 ⟨t, ht, rfl, C6, hb6⟩
  have hb6 := grown_al _ hb6
  have Z6 := Z5.grown hb6 (by intro e; injection e with e; omega)
  have B6 : Below w.heap.size w w6 := Below.grown B5 hb6 (by omega) (fun k e => by injection e with e; omega)
  have s6 := Z6.lt
  have c0 := Z6.cell 0
  have c1 := Z6.cell 1
  have c2 := Z6.cell 2
  have c3 := Z6.cell 3
  have c4 := Z6.cell 4
  have c5 := Z6.cell 5
  have c6 := Z6.cell 6
  have c7 := Z6.cell 7
  have c8 := Z6.cell 8
  have c9 := Z6.cell 9
  have c10 := Z6.cell 10
  simp at c0 c1 c2 c3 c4 c5 c6 c7 c8 c9 c10
  have fz := fun i => Z6.free i
  clear hb6 Z5 B5 C5 Z6 C6
  go_wp2_with fail
  (refine bodyPost_ret (v := .tuple #[.int .i64 i, .agg #[.int .i64 k.A, .int .i64 k.X, .int .i64 k.Y, .int .i64 k.S, .int .i64 k.PC, .int .i64 k.N, .int .i64 k.V, .int .i64 k.D, .int .i64 k.I, .int .i64 k.Z, .int .i64 k.C], .string ⟨t.toArray⟩]) (by (simp only [results, Tryd.results12]; go_simp <;> (rfl))) rfl ?_)
  exact ⟨i, k, t, rfl, hi.1, hi.2, ht, blw⟩
end Go.Proofs.YthlmddcjbhacmaaDoor
