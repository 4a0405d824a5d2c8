/- Drawn processors. -/
import Derived.Test.YthlmddcjbhacmaaDoorDraw3
import Derived.Test.YthlmddcjbhacmaaDoorAluS
import Derived.Test.YthlmddcjbhacmaaDoorCpuX
import Derived.Deep.RegionHeld3
set_option linter.unusedVariables false
set_option linter.unusedSimpArgs false
namespace Go.Proofs.YthlmddcjbhacmaaDoor
open Go.RowKit Go.Proofs.YthlmddcjbhacmaaDoorW.PrintWords
theorem w16c (x : Int) : 0 ≤ IntKind.u16.wrap x ∧ IntKind.u16.wrap x < 65536 := by rw [IntKind.wrap_u16]; omega
theorem grown_new {a w : World} {row : Option Nat} {r : Nat} (h : a.grownBy w row) (hr : a.heap.size ≤ r) (i : Nat) (v : Value) : a.grownBy (w.setCell ⟨r, i, none⟩ v) row := by
  refine ⟨h.os, h.tape, h.output, by simpa [World.setCell] using h.size, fun k hk hne => ?_⟩
  rw [Below.heap_setCell _ _ _ _ (by show ¬ k = r; omega)]
  exact h.block k hk hne
set_option maxRecDepth 20000 in
set_option maxHeartbeats 1000000 in
theorem spec_l04Pc (g : Nat) (A : Option Addr) (c : Nat) (l : List Int) (w : World) (h : Cur w g A c l) (hl : l.length ≤ 1048576) :
    Calls Tryd.prog 61 #[.pointer (some ⟨g, 0, none⟩)] w fun e w' => ∃ x, e = .returned (.int .u16 x) ∧ 0 ≤ x ∧ x < 65536 ∧ Cur w' g A c l ∧ w.grownBy w' (some g) := by
  have HB := hR w; go_enter Tryd.func61, Tryd.ntmps61
  go_wp2_with fail
  refine (spec_l01Below g A c l 65536 _ h hl (by omega) (by omega)).mono ?_
  rintro _ w1 ⟨x, rfl, x0, x1, hc, hb⟩
  have hg : g < w1.heap.size := World.block_lt_of_cell? w1 _ hc.b
  go_wp2_with fail
  refine (spec_l01PickInt g A c l (some ⟨w1.heap.size, 0, none⟩) 8 [0, 255, 512, 4096, 32768, 65535, 65530, x] _ (hc.below (blw)) hl (C_alloc _ _ _ (by simp)) (by simp) (by simp) (fun ad e => by injection e with e; subst e; simp; omega)).mono ?_
  rintro _ w2 ⟨k, hk, rfl, hc2, hb2⟩
  go_wp2_with fail
  go_ret
  exact ⟨_, rfl, (w16c _).1, (w16c _).2, hc2, hb.trans (grown_al _ hb2)⟩
set_option maxHeartbeats 400000 in
theorem spec_l02Flags (g : Nat) (A : Option Addr) (c : Nat) (l : List Int) (w : World) (h : Cur w g A c l) (hl : l.length ≤ 1048576) :
    Calls Tryd.prog 62 #[.pointer (some ⟨g, 0, none⟩)] w fun e w' => ∃ f : F6, e = .returned (.agg #[.bool f.N, .bool f.V, .bool f.D, .bool f.I, .bool f.Z, .bool f.C]) ∧ Cur w' g A c l ∧ w.grownBy w' (some g) := by
  have hg0 : g < w.heap.size := World.block_lt_of_cell? w _ h.b
  have HB := hR w; go_enter Tryd.func62, Tryd.ntmps62
  go_wp2_with fail
  refine Calls.mono (spec_l01Byte _ _ _ _ _ (h.below (blw)) hl) ?_
  rintro _ w2 ⟨x, rfl, x0, x1, hc2, hb2⟩
  have hg2 : g < w2.heap.size := World.block_lt_of_cell? w2 _ hc2.b
  have hB : w2.heap[w.heap.size]? = some (.cells #[.bool false, .bool false, .bool false, .bool false, .bool false, .bool false] 57 (0, 0)) := (hb2.block w.heap.size (by simp) (by intro e; injection e with e; omega)).trans (by show (w.heap.push _)[w.heap.size]? = _; simp)
  have hk := blk_lt hB
  go_wp2_with fail
  refine Calls.mono (spec_UnpackP x _ x0 x1) ?_
  rintro _ w3 ⟨rfl, hb⟩
  have hB3 := (hb.block _ hk).trans hB
  have c0 := blk_cell hB3 0
  have c1 := blk_cell hB3 1
  have c2 := blk_cell hB3 2
  have c3 := blk_cell hB3 3
  have c4 := blk_cell hB3 4
  have c5 := blk_cell hB3 5
  simp at c0 c1 c2 c3 c4 c5
  have fz := fun i => blk_frozen hB3 i
  have hk3 := blk_lt hB3
  generalize unpackP x = f
  have hc3 := hc2.below hb
  have hg3 := grown_below (grown_al _ hb2) hb
  clear hB hB3 hb hc2 hb2
  go_wp2_with fail
  (refine bodyPost_ret (v := .agg #[.bool f.N, .bool f.V, .bool f.D, .bool f.I, .bool f.Z, .bool f.C]) (by (simp only [results, Tryd.results62]; go_simp <;> (rfl))) rfl ?_)
  exact ⟨f, rfl, hc3.away (grown_set (grown_set (grown_set (grown_set (grown_set (grown_set (grown_refl w3 _) 0 _) 1 _) 2 _) 3 _) 4 _) 5 _) (fun k e => by injection e with e; omega), grown_new (grown_new (grown_new (grown_new (grown_new (grown_new hg3 (Nat.le_refl _) 0 _) (Nat.le_refl _) 1 _) (Nat.le_refl _) 2 _) (Nat.le_refl _) 3 _) (Nat.le_refl _) 4 _) (Nat.le_refl _) 5 _⟩
set_option maxRecDepth 20000 in
set_option maxHeartbeats 1000000 in
theorem spec_l05Cpu (g : Nat) (A : Option Addr) (c : Nat) (l : List Int) (w : World) (h : Cur w g A c l) (hl : l.length ≤ 1048576) :
    Calls Tryd.prog 32 #[.pointer (some ⟨g, 0, none⟩)] w fun e w' => ∃ p : Cpu, p.ok ∧ e = .returned (.agg #[.int .u8 p.A, .int .u8 p.X, .int .u8 p.Y, .int .u8 p.S, .int .u16 p.PC, .bool p.F.N, .bool p.F.V, .bool p.F.D, .bool p.F.I, .bool p.F.Z, .bool p.F.C]) ∧ Cur w' g A c l ∧ w.grownBy w' (some g) := by
  have hg0 : g < w.heap.size := World.block_lt_of_cell? w _ h.b
  have HB := hR w; go_enter Tryd.func32, Tryd.ntmps32
  go_wp2_with fail
  refine Calls.mono (spec_l02Byte _ _ _ _ _ (h.below (blw)) hl) ?_
  rintro _ w2 ⟨a, rfl, a0, a1, hc2, hb2⟩
  have hB2 : w2.heap[w.heap.size]? = some (.cells #[.int .u8 0, .int .u8 0, .int .u8 0, .int .u8 0, .int .u16 0, .bool false, .bool false, .bool false, .bool false, .bool false, .bool false] 59 (0, 0)) := (hb2.block w.heap.size (by simp) (by intro e; injection e with e; omega)).trans (by show (w.heap.push _)[w.heap.size]? = _; simp)
  have gr2 := grown_al _ hb2
  go_wp2_with fail
  refine Calls.mono (spec_l02Byte _ _ _ _ _ hc2 hl) ?_
  rintro _ w3 ⟨x, rfl, x0, x1, hc3, hb3⟩
  have hB3 := (hb3.block w.heap.size (by first | exact blk_lt hB2 | (simp; have := blk_lt hB2; omega)) (by intro e; injection e with e; omega)).trans (hB2)
  have gr3 := gr2.trans hb3
  go_wp2_with fail
  refine Calls.mono (spec_l02Byte _ _ _ _ _ hc3 hl) ?_
  rintro _ w4 ⟨y, rfl, y0, y1, hc4, hb4⟩
  have hB4 := (hb4.block w.heap.size (by first | exact blk_lt hB3 | (simp; have := blk_lt hB3; omega)) (by intro e; injection e with e; omega)).trans (hB3)
  have gr4 := gr3.trans hb4
  have hg4 : g < w4.heap.size := World.block_lt_of_cell? w4 _ hc4.b
  go_wp2_with fail
  refine (spec_l01PickInt g A c l (some ⟨w4.heap.size, 0, none⟩) 5 [255, 253, 0, 1, 200] _ (hc4.below (blw)) hl (C_alloc _ _ _ (by decide)) (by decide) (by decide) (fun ad e => by injection e with e; subst e; simp; omega)).mono ?_
  rintro _ w5 ⟨k, hk, rfl, hc5, hb5⟩
  have gr5 := gr4.trans (grown_al _ hb5)
  have hB5 := ((grown_al _ hb5).block w.heap.size (blk_lt hB4) (by intro e; injection e with e; omega)).trans hB4
  go_wp2_with fail
  refine Calls.mono (spec_l04Pc _ _ _ _ _ hc5 hl) ?_
  rintro _ w6 ⟨p, rfl, p0, p1, hc6, hb6⟩
  have hB6 := (hb6.block w.heap.size (by first | exact blk_lt hB5 | (simp; have := blk_lt hB5; omega)) (by intro e; injection e with e; omega)).trans (hB5)
  have gr6 := gr5.trans hb6
  go_wp2_with fail
  refine Calls.mono (spec_l02Flags _ _ _ _ _ hc6 hl) ?_
  rintro _ w7 ⟨f, rfl, hc7, hb7⟩
  have hB7 := (hb7.block w.heap.size (by first | exact blk_lt hB6 | (simp; have := blk_lt hB6; omega)) (by intro e; injection e with e; omega)).trans (hB6)
  have gr7 := gr6.trans hb7
  have c0 := blk_cell hB7 0
  have c1 := blk_cell hB7 1
  have c2 := blk_cell hB7 2
  have c3 := blk_cell hB7 3
  have c4 := blk_cell hB7 4
  have c5 := blk_cell hB7 5
  have c6 := blk_cell hB7 6
  have c7 := blk_cell hB7 7
  have c8 := blk_cell hB7 8
  have c9 := blk_cell hB7 9
  have c10 := blk_cell hB7 10
  simp at c0 c1 c2 c3 c4 c5 c6 c7 c8 c9 c10
  have fz := fun i => blk_frozen hB7 i
  have hk7 := blk_lt hB7
  have hS : 0 ≤ rd [255, 253, 0, 1, 200] k % 256 ∧ rd [255, 253, 0, 1, 200] k % 256 < 256 := by omega
  obtain ⟨S, hSe⟩ : ∃ S, rd [255, 253, 0, 1, 200] k % 256 = S := ⟨_, rfl⟩
  rw [hSe] at hS
  clear hB2 hB3 hB4 hB5 hB6 hB7 hb2 hb3 hb4 hb5 hb6 hb7 gr2 gr3 gr4 gr5 gr6
  go_wp2_with fail
  (refine bodyPost_ret (v := .agg #[.int .u8 (⟨a, x, y, S, p, f⟩ : Cpu).A, .int .u8 (⟨a, x, y, S, p, f⟩ : Cpu).X, .int .u8 (⟨a, x, y, S, p, f⟩ : Cpu).Y, .int .u8 (⟨a, x, y, S, p, f⟩ : Cpu).S, .int .u16 (⟨a, x, y, S, p, f⟩ : Cpu).PC, .bool (⟨a, x, y, S, p, f⟩ : Cpu).F.N, .bool (⟨a, x, y, S, p, f⟩ : Cpu).F.V, .bool (⟨a, x, y, S, p, f⟩ : Cpu).F.D, .bool (⟨a, x, y, S, p, f⟩ : Cpu).F.I, .bool (⟨a, x, y, S, p, f⟩ : Cpu).F.Z, .bool (⟨a, x, y, S, p, f⟩ : Cpu).F.C]) (by (simp only [results, Tryd.results32]; go_simp <;> (rfl))) rfl ?_)
  exact ⟨⟨a, x, y, S, p, f⟩, ⟨a0, a1, x0, x1, y0, y1, hS.1, hS.2, p0, p1⟩, rfl, hc7.away (grown_set (grown_set (grown_set (grown_set (grown_set (grown_set (grown_set (grown_set (grown_set (grown_set (grown_set (grown_refl w7 _) 0 _) 1 _) 2 _) 3 _) 4 _) 5 _) 6 _) 7 _) 8 _) 9 _) 10 _) (fun k e => by injection e with e; omega), (grown_new (grown_new (grown_new (grown_new (grown_new (grown_new (grown_new (grown_new (grown_new (grown_new (grown_new gr7 (Nat.le_refl _) 0 _) (Nat.le_refl _) 1 _) (Nat.le_refl _) 2 _) (Nat.le_refl _) 3 _) (Nat.le_refl _) 4 _) (Nat.le_refl _) 5 _) (Nat.le_refl _) 6 _) (Nat.le_refl _) 7 _) (Nat.le_refl _) 8 _) (Nat.le_refl _) 9 _) (Nat.le_refl _) 10 _)⟩
end Go.Proofs.YthlmddcjbhacmaaDoor
