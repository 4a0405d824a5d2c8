/- What is known of a processor, as the reference lays it. -/
import Derived.Test.YthlmddcjbhacmaaDoorBlk
import Derived.Test.YthlmddcjbhacmaaDoorCpuX
import Derived.Test.YthlmddcjbhacmaaDoorPack
import Derived.Deep.RegionHeld3
set_option linter.unusedVariables false
set_option linter.unusedSimpArgs false
namespace Go.Proofs.YthlmddcjbhacmaaDoor
open Go.RowKit Go.Proofs.YthlmddcjbhacmaaDoorW.PrintWords
set_option maxRecDepth 20000 in
set_option maxHeartbeats 4000000 in
theorem spec_l09Of (g : Nat) (v0 v1 v2 v3 v4 v5 v6 v7 v8 v9 v10 : Int) (w : World) (h0 : w.cell? ⟨g, 0, none⟩ = some (.int .i64 v0)) (h1 : w.cell? ⟨g, 1, none⟩ = some (.int .i64 v1)) (h2 : w.cell? ⟨g, 2, none⟩ = some (.int .i64 v2)) (h3 : w.cell? ⟨g, 3, none⟩ = some (.int .i64 v3)) (h4 : w.cell? ⟨g, 4, none⟩ = some (.int .i64 v4)) (h5 : w.cell? ⟨g, 5, none⟩ = some (.int .i64 v5)) (h6 : w.cell? ⟨g, 6, none⟩ = some (.int .i64 v6)) (h7 : w.cell? ⟨g, 7, none⟩ = some (.int .i64 v7)) (h8 : w.cell? ⟨g, 8, none⟩ = some (.int .i64 v8)) (h9 : w.cell? ⟨g, 9, none⟩ = some (.int .i64 v9)) (h10 : w.cell? ⟨g, 10, none⟩ = some (.int .i64 v10)) :
    Calls Tryd.prog 66 #[.slice (some ⟨g, 0, none⟩) 11 11] w fun e w' => e = .returned (.agg #[.int .i64 v0, .int .i64 v1, .int .i64 v2, .int .i64 v3, .int .i64 v4, .int .i64 v5, .int .i64 v6, .int .i64 v7, .int .i64 v8, .int .i64 v9, .int .i64 v10]) ∧ Below w.heap.size w w' := by
  have hg : g < w.heap.size := World.block_lt_of_cell? w _ h0
  have hgn : ¬ g = w.heap.size := by omega
  have HB := hR w; go_enter Tryd.func66, Tryd.ntmps66
  go_wp2_with fail
  go_region_held3 (fun w' => w'.cell? ⟨g, 0, none⟩ = some (.int .i64 v0) ∧ w'.cell? ⟨g, 1, none⟩ = some (.int .i64 v1) ∧ w'.cell? ⟨g, 2, none⟩ = some (.int .i64 v2) ∧ w'.cell? ⟨g, 3, none⟩ = some (.int .i64 v3) ∧ w'.cell? ⟨g, 4, none⟩ = some (.int .i64 v4) ∧ w'.cell? ⟨g, 5, none⟩ = some (.int .i64 v5) ∧ w'.cell? ⟨g, 6, none⟩ = some (.int .i64 v6) ∧ w'.cell? ⟨g, 7, none⟩ = some (.int .i64 v7) ∧ w'.cell? ⟨g, 8, none⟩ = some (.int .i64 v8) ∧ w'.cell? ⟨g, 9, none⟩ = some (.int .i64 v9) ∧ w'.cell? ⟨g, 10, none⟩ = some (.int .i64 v10)) (first | (go_keep; done) | (go_split_ands; (repeat' apply And.intro) <;> (first | (with_reducible assumption) | (go_simp; done) | (exact cell_keep blw (by assumption)) | exact blw))) (first | fail)
  go_wp2_with fail
  (refine bodyPost_ret (v := .agg #[.int .i64 v0, .int .i64 v1, .int .i64 v2, .int .i64 v3, .int .i64 v4, .int .i64 v5, .int .i64 v6, .int .i64 v7, .int .i64 v8, .int .i64 v9, .int .i64 v10]) (by (simp only [results, Tryd.results66]; go_simp <;> (rfl))) rfl ?_)
  exact ⟨rfl, blw⟩
theorem l09Of_blk (g : Nat) (v0 v1 v2 v3 v4 v5 v6 v7 v8 v9 v10 : Int) (W : World) (hb : Blk W g #[.int .i64 v0, .int .i64 v1, .int .i64 v2, .int .i64 v3, .int .i64 v4, .int .i64 v5, .int .i64 v6, .int .i64 v7, .int .i64 v8, .int .i64 v9, .int .i64 v10] 3) :
    Calls Tryd.prog 66 #[.slice (some ⟨g, 0, none⟩) 11 11] W fun e w' => e = .returned (.agg #[.int .i64 v0, .int .i64 v1, .int .i64 v2, .int .i64 v3, .int .i64 v4, .int .i64 v5, .int .i64 v6, .int .i64 v7, .int .i64 v8, .int .i64 v9, .int .i64 v10]) ∧ Below W.heap.size W w' :=
  spec_l09Of _ v0 v1 v2 v3 v4 v5 v6 v7 v8 v9 v10 _ (hb.cell 0) (hb.cell 1) (hb.cell 2) (hb.cell 3) (hb.cell 4) (hb.cell 5) (hb.cell 6) (hb.cell 7) (hb.cell 8) (hb.cell 9) (hb.cell 10)
theorem bitJ1 (b : Bool) : bitJ b 1 = b2i b := by cases b <;> rfl
set_option maxRecDepth 20000 in
set_option maxHeartbeats 4000000 in
theorem spec_KnowOf (c : Cpu) (w : World) (hc : c.ok) :
    Calls Tryd.prog 87 #[.agg #[.int .u8 c.A, .int .u8 c.X, .int .u8 c.Y, .int .u8 c.S, .int .u16 c.PC, .bool c.F.N, .bool c.F.V, .bool c.F.D, .bool c.F.I, .bool c.F.Z, .bool c.F.C]] w fun e w' => e = .returned (.agg #[.int .i64 c.A, .int .i64 c.X, .int .i64 c.Y, .int .i64 c.S, .int .i64 c.PC, .int .i64 (b2i c.F.N), .int .i64 (b2i c.F.V), .int .i64 (b2i c.F.D), .int .i64 (b2i c.F.I), .int .i64 (b2i c.F.Z), .int .i64 (b2i c.F.C)]) ∧ Below w.heap.size w w' := by
  have hbit : ∀ (b : Bool) (W : World), Calls Tryd.prog 95 #[.bool b, .int .i64 1] W fun e w' => e = .returned (.int .i64 (b2i b)) ∧ W = w' := fun b W => by
    have hh := spec_l02Bit b 1 W
    rw [bitJ1] at hh
    exact hh
  obtain ⟨a0, a1, x0, x1, y0, y1, s0, s1, p0, p1⟩ := hc
  have wA : IntKind.i64.wrap c.A = c.A := w64 (by omega)
  have wX : IntKind.i64.wrap c.X = c.X := w64 (by omega)
  have wY : IntKind.i64.wrap c.Y = c.Y := w64 (by omega)
  have wS : IntKind.i64.wrap c.S = c.S := w64 (by omega)
  have wP : IntKind.i64.wrap c.PC = c.PC := w64 (by omega)
  have HB := hR w; go_enter Tryd.func87, Tryd.ntmps87
  go_upto_region 2 with (fail)
  go_region_held3 (fun w' => w'.cell? ⟨w.heap.size, 0, none⟩ = some (.int .u8 c.A) ∧ w'.cell? ⟨w.heap.size, 1, none⟩ = some (.int .u8 c.X) ∧ w'.cell? ⟨w.heap.size, 2, none⟩ = some (.int .u8 c.Y) ∧ w'.cell? ⟨w.heap.size, 3, none⟩ = some (.int .u8 c.S) ∧ w'.cell? ⟨w.heap.size, 4, none⟩ = some (.int .u16 c.PC) ∧ w'.cell? ⟨w.heap.size + 1 + 1, 0, none⟩ = some (.bool c.F.N) ∧ w'.cell? ⟨w.heap.size + 1 + 1, 1, none⟩ = some (.bool c.F.V) ∧ w'.cell? ⟨w.heap.size + 1 + 1, 2, none⟩ = some (.bool c.F.D) ∧ w'.cell? ⟨w.heap.size + 1 + 1, 3, none⟩ = some (.bool c.F.I) ∧ w'.cell? ⟨w.heap.size + 1 + 1, 4, none⟩ = some (.bool c.F.Z) ∧ w'.cell? ⟨w.heap.size + 1 + 1, 5, none⟩ = some (.bool c.F.C)) (first | (go_keep; done) | (go_split_ands; (repeat' apply And.intro) <;> (first | (with_reducible assumption) | (go_simp; done) | (exact cell_keep blw (by assumption)) | exact blw))) (first | (go_at_call 95; ((with_reducible refine (hbit _ _).mono ?_); rintro _ _ ⟨rfl, rfl⟩)) | (go_at_call 66; ((with_reducible refine Calls.mono (l09Of_blk _ c.A c.X c.Y c.S c.PC (b2i c.F.N) (b2i c.F.V) (b2i c.F.D) (b2i c.F.I) (b2i c.F.Z) (b2i c.F.C) _ (by (repeat (first | ((with_reducible refine Blk.at ?_); (simp; done)) | (with_reducible refine Blk.drew ?_))))) ?_); rintro _ w4 ⟨rfl, hb⟩; have HB := Aside0.mk (below_step (w := w) blw hb); have hz4 := hb.size; obtain ⟨hcl4, hfr4, hlt4, _⟩ := bcell hb; (try simp only [sA, sC, sD] at hz4); (try simp only [sA, sC, sD] at hcl4 hfr4 hlt4); have hk4_0 : w.heap.size < w4.heap.size := (by omega); have hk4_1 : w.heap.size + 1 < w4.heap.size := (by omega); have hk4_2 : w.heap.size + 1 + 1 < w4.heap.size := (by omega); have HB4 := hR w4; clear hb)))
  go_wp2_with fail
  (refine bodyPost_ret (v := .agg #[.int .i64 c.A, .int .i64 c.X, .int .i64 c.Y, .int .i64 c.S, .int .i64 c.PC, .int .i64 (b2i c.F.N), .int .i64 (b2i c.F.V), .int .i64 (b2i c.F.D), .int .i64 (b2i c.F.I), .int .i64 (b2i c.F.Z), .int .i64 (b2i c.F.C)]) (by (simp only [results, Tryd.results87]; go_simp <;> (rfl))) rfl ?_)
  exact ⟨rfl, blw⟩
end Go.Proofs.YthlmddcjbhacmaaDoor
