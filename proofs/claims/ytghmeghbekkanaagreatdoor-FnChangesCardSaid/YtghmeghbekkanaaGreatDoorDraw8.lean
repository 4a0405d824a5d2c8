/- The draws of FnStep and FnServe: a processor and a memory with an operation at PC. -/
import Derived.Test.YtghmeghbekkanaaGreatDoorGL
import Derived.Test.YtghmeghbekkanaaGreatDoorMany
import Derived.Deep.DeepCutAuto
import Derived.Deep.CutBlock
set_option linter.unusedVariables false
set_option linter.unusedSimpArgs false
namespace Go.Proofs.YtghmeghbekkanaaGreatDoor
open Go.RowKit Go.Proofs.YtghmeghbekkanaaGreatDoorW.PrintWords
theorem blk_grows {w w' : World} {g : Nat} (hb : w.grownBy w' (some g)) : ∀ k cs t, k ≠ g → Blk w k cs t → Blk w' k cs t := fun _ _ _ hk h => h.grown hb (fun e => hk (by injection e))
theorem Cur.put {w : World} {g : Nat} {A : Option Addr} {c : Nat} {l : List Int} (h : Cur w g A c l) {k i : Nat} {v : Value} (hk : g < k) : Cur (w.setCell ⟨k, i, none⟩ v) g A c l := h.away (row := some k) (grown_set (grown_refl _ _) i v) (fun q e => by injection e with e; omega)
set_option maxRecDepth 20000 in
set_option maxHeartbeats 4000000 in
theorem spec_l06Small (g : Nat) (A : Option Addr) (c : Nat) (l : List Int) (w : World) (h : Cur w g A c l) (hl : l.length ≤ 1048576) :
    Calls Tryz.prog 56 #[.pointer (some ⟨g, 0, none⟩)] w fun e w' => ∃ (p : Cpu) (L : List Int) (A1 : Option Addr) (c1 : Nat), e = .returned (.tuple #[.agg #[.int .u8 p.A, .int .u8 p.X, .int .u8 p.Y, .int .u8 p.S, .int .u16 p.PC, .bool p.F.N, .bool p.F.V, .bool p.F.D, .bool p.F.I, .bool p.F.Z, .bool p.F.C], .agg #[.slice A1 L.length c1]]) ∧ p.ok ∧ L.length ≤ 4096 ∧ (∀ i, 0 ≤ rd L i ∧ rd L i < 256) ∧ OwnB w' w.heap.size (.slice A1 L.length c1) L ∧ Cur w' g A c l ∧ w.grownBy w' (some g) := by
  have hg0 : g < w.heap.size := World.block_lt_of_cell? w _ h.b
  have HB := hR w; go_enter Tryz.func56, Tryz.ntmps56
  go_wp2_with fail
  refine Calls.mono (spec_l05Ram g A c l _ (h.below (blw)) hl) ?_
  rintro _ w1 ⟨R, A1, c1, rfl, hr, HL⟩
  have hp := ramSize_le hr
  have K : Aside0 (Many w1 [(w.heap.size, #[.int .u8 0, .int .u8 0, .int .u8 0, .int .u8 0, .int .u16 0, .bool false, .bool false, .bool false, .bool false, .bool false, .bool false], 28), (w.heap.size + 1, #[.slice none 0 0], 30)]) := ⟨Many.grown (Many.cons ((Blk.at rfl).alloc _) (Many.cons (Blk.at (by simp)) (Many.nil _))) HL.only (by simp; omega)⟩
  have HG := Aside0.mk (grown_al _ (grown_al _ HL.only))
  have hz1 := HL.only.size
  simp only [sA] at hz1
  have O1 := Aside0.mk (OwnX.of HL.own)
  have hRb := rd_lit2 R HL.b
  have HC := Aside0.mk HL.cur
  clear HL
  go_wp2_with fail
  refine Calls.mono (spec_l05Cpu g A c l _ (HC.out.below (blw)) hl) ?_
  rintro _ w2 ⟨p, hp0, rfl, hc, hb⟩
  have K : Aside0 (Many w2 [(w1.heap.size, #[.slice A1 R.length c1], 30), (w.heap.size, #[.int .u8 0, .int .u8 0, .int .u8 0, .int .u8 0, .int .u16 0, .bool false, .bool false, .bool false, .bool false, .bool false, .bool false], 28), (w.heap.size + 1, #[.slice none 0 0], 30)]) := ⟨Many.grown (Many.cons (Blk.at rfl) (K.out.alloc _)) hb (by simp; omega)⟩
  replace HG := Aside0.mk (HG.out.trans (grown_al _ hb))
  have hz2 := hb.size
  simp only [sA] at hz2
  replace O1 := Aside0.mk ((O1.out.below (blw)).grown hb (fun k e => by injection e with e; subst e; left; simp; omega))
  replace HC := Aside0.mk hc
  clear hc hb
  go_upto_region 3 with (fail)
  have hb : Below w2.heap.size w2 (w2.alloc (.cells #[.int .u8 p.A, .int .u8 p.X, .int .u8 p.Y, .int .u8 p.S, .int .u16 p.PC, .bool p.F.N, .bool p.F.V, .bool p.F.D, .bool p.F.I, .bool p.F.Z, .bool p.F.C] 28)) := blw
  have hz3 : (w2.alloc (.cells #[.int .u8 p.A, .int .u8 p.X, .int .u8 p.Y, .int .u8 p.S, .int .u16 p.PC, .bool p.F.N, .bool p.F.V, .bool p.F.D, .bool p.F.I, .bool p.F.Z, .bool p.F.C] 28)).heap.size = w2.heap.size + 1 := by simp
  have K : Aside0 (Many (w2.alloc (.cells #[.int .u8 p.A, .int .u8 p.X, .int .u8 p.Y, .int .u8 p.S, .int .u16 p.PC, .bool p.F.N, .bool p.F.V, .bool p.F.D, .bool p.F.I, .bool p.F.Z, .bool p.F.C] 28)) [(w2.heap.size, #[.int .u8 p.A, .int .u8 p.X, .int .u8 p.Y, .int .u8 p.S, .int .u16 p.PC, .bool p.F.N, .bool p.F.V, .bool p.F.D, .bool p.F.I, .bool p.F.Z, .bool p.F.C], 28), (w1.heap.size, #[.slice A1 R.length c1], 30), (w.heap.size, #[.int .u8 0, .int .u8 0, .int .u8 0, .int .u8 0, .int .u16 0, .bool false, .bool false, .bool false, .bool false, .bool false, .bool false], 28), (w.heap.size + 1, #[.slice none 0 0], 30)]) := ⟨Many.cons (Blk.at rfl) (K.out.below hb)⟩
  replace HG := Aside0.mk (grown_below HG.out hb)
  replace O1 := Aside0.mk (O1.out.below hb)
  replace HC := Aside0.mk (HC.out.below hb)
  clear hb
  generalize w2.alloc (.cells #[.int .u8 p.A, .int .u8 p.X, .int .u8 p.Y, .int .u8 p.S, .int .u16 p.PC, .bool p.F.N, .bool p.F.V, .bool p.F.D, .bool p.F.I, .bool p.F.Z, .bool p.F.C] 28) = w3 at *
  have KA := K.out.at 2 rfl
  have KB := K.out.at 3 rfl
  obtain ⟨e0, e1, e2, e3, e4, e5, e6, e7, e8, e9, e10⟩ := (K.out.at 0 rfl).cpu
  have r4 := (K.out.at 1 rfl).one
  have fA := KA.free
  have fB := KB.free
  have hpc : 0 ≤ p.PC ∧ p.PC < 65536 := by obtain ⟨_, _, _, _, _, _, _, _, p0, p1⟩ := hp0; exact ⟨p0, p1⟩
  have hne : g ≠ w2.heap.size := by omega
  have hne1 : g ≠ w1.heap.size := by omega
  go_region_held3 (fun w' => w'.cell? ⟨w2.heap.size, 0, none⟩ = some (.int .u8 p.A) ∧ w'.cell? ⟨w2.heap.size, 1, none⟩ = some (.int .u8 p.X) ∧ w'.cell? ⟨w2.heap.size, 2, none⟩ = some (.int .u8 p.Y) ∧ w'.cell? ⟨w2.heap.size, 3, none⟩ = some (.int .u8 p.S) ∧ w'.cell? ⟨w2.heap.size, 4, none⟩ = some (.int .u16 p.PC) ∧ w'.cell? ⟨w2.heap.size, 5, none⟩ = some (.bool p.F.N) ∧ w'.cell? ⟨w2.heap.size, 6, none⟩ = some (.bool p.F.V) ∧ w'.cell? ⟨w2.heap.size, 7, none⟩ = some (.bool p.F.D) ∧ w'.cell? ⟨w2.heap.size, 8, none⟩ = some (.bool p.F.I) ∧ w'.cell? ⟨w2.heap.size, 9, none⟩ = some (.bool p.F.Z) ∧ w'.cell? ⟨w2.heap.size, 10, none⟩ = some (.bool p.F.C) ∧ w'.cell? ⟨w1.heap.size, 0, none⟩ = some (.slice A1 R.length c1)) (first | (go_keep; done) | (go_split_ands; (repeat' apply And.intro) <;> (first | (with_reducible assumption) | (go_simp; done) | (exact cell_keep blw (by assumption)) | exact blw))) (first | (go_at_call 121; ((with_reducible refine (spec_l04Bytes g A c l 2 _ (HC.out.below (blw)) hl (by omega) (by omega)).mono ?_); rintro _ w4 ⟨M, A4, c4, rfl, m0, m1, HL⟩; have k4 : ∀ i, w4.cell? ⟨w2.heap.size, i, none⟩ = w3.drew.cell? ⟨w2.heap.size, i, none⟩ := fun i => World.cell?_of_block (HL.only.block w2.heap.size (by simp; omega) (by intro e; injection e with e; omega)); have k4b : ∀ i, w4.cell? ⟨w1.heap.size, i, none⟩ = w3.drew.cell? ⟨w1.heap.size, i, none⟩ := fun i => World.cell?_of_block (HL.only.block w1.heap.size (by simp; omega) (by intro e; injection e with e; omega)); have KA4 := Aside0.mk (blk_grows HL.only _ _ _ (by omega) (KA.drew)); have KB4 := Aside0.mk (blk_grows HL.only _ _ _ (by omega) (KB.drew)); have HX4 := Aside0.mk (blk_grows HL.only); have hz4 := HL.only.size; simp only [sD] at hz4; have O4 := Aside0.mk (OwnX.grown (OwnX.below O1.out (blw)) HL.only (fun k e => by injection e with e; subst e; left; (simp only [sA] <;> omega))); have HG4 := Aside0.mk ((grown_drew HG.out).trans HL.only); have BM := Aside0.mk (HL.own.bs (rd_lit2 M HL.b)); have HC4 := Aside0.mk HL.cur; clear HL)) | (go_at_call 120; ((with_reducible refine (spec_Fill A1 c1 R p.PC A4 c4 M _ (O4.out.b.bs hRb) BM.out hpc.1 hpc.2).mono ?_); rintro _ w5 ⟨A5, c5, rfl, ho, hb⟩; have k5 : ∀ i, w5.cell? ⟨w2.heap.size, i, none⟩ = w4.cell? ⟨w2.heap.size, i, none⟩ := fun i => hb.cell (by show w2.heap.size < _; omega); have k5b : ∀ i, w5.cell? ⟨w1.heap.size, i, none⟩ = w4.cell? ⟨w1.heap.size, i, none⟩ := fun i => hb.cell (by show w1.heap.size < _; omega); have KA5 := Aside0.mk (KA4.out.below hb); have KB5 := Aside0.mk (KB4.out.below hb); have fA5 := KA5.out.free; have fB5 := KB5.out.free; obtain ⟨z0, z1, z2, z3, z4, z5, z6, z7, z8, z9, z10⟩ := Blk.cpu (c := ⟨0, 0, 0, 0, 0, ⟨false, false, false, false, false, false⟩⟩) KA5.out; have y0 := KB5.out.one; have HX5 := Aside0.mk (blk_moves hb); have hz5 := hb.size; have HO5 := Aside0.mk (OwnX.of ho); have HG5 := Aside0.mk (grown_below HG4.out hb); have HC5 := Aside0.mk (HC4.out.below hb); clear hb ho)))
  have hfl := fill_le R p.PC M
  have hfb := fill_rd p.PC M R hRb BM.out.b
  go_wp2_with fail
  (refine bodyPost_ret (v := .tuple #[.agg #[.int .u8 p.A, .int .u8 p.X, .int .u8 p.Y, .int .u8 p.S, .int .u16 p.PC, .bool p.F.N, .bool p.F.V, .bool p.F.D, .bool p.F.I, .bool p.F.Z, .bool p.F.C], .agg #[.slice A5 (fill R p.PC M).length c5]]) (by (simp only [results, Tryz.results56]; go_simp <;> (rfl))) rfl ?_)
  exact ⟨p, fill R p.PC M, A5, c5, rfl, hp0, by omega, hfb, OwnB.lower (OwnX.b (HO5.out.step (fun k h1 h2 => by (repeat (with_reducible first | exact Same.refl _ _ | (refine Same.putC ?_ ?_; rotate_left; (first | omega | (simp only [sA, sC, sD] <;> omega) | (simp <;> omega))) | (refine Same.set ?_ ?_; rotate_left; (first | omega | (simp only [sA, sC, sD] <;> omega) | (simp <;> omega))) | (refine Same.alloc ?_ ?_; rotate_left; (first | omega | (simp only [sA, sC, sD] <;> omega) | (simp <;> omega))) | refine Same.drew ?_))))) (by omega), by (repeat (with_reducible first | exact HC5.out | (refine Cur.put ?_ ?_; rotate_left; (first | omega | (simp only [sA, sC, sD] <;> omega) | (simp <;> omega))))), by (repeat (with_reducible first | exact HG5.out | (refine grown_new ?_ ?_ _ _; rotate_left; (first | omega | (simp only [sA, sC, sD] <;> omega) | (simp <;> omega)))))⟩
set_option maxRecDepth 20000 in
set_option maxHeartbeats 4000000 in
theorem spec_DrawStep (A : Option Addr) (c : Nat) (l : List Int) (w : World) (h : Bs w A l) (hl : l.length ≤ 1048576) :
    Calls Tryz.prog 12 #[.slice A l.length c] w fun e w' => ∃ (p : Cpu) (L : List Int) (A1 : Option Addr) (c1 : Nat), e = .returned (.tuple #[.agg #[.int .u8 p.A, .int .u8 p.X, .int .u8 p.Y, .int .u8 p.S, .int .u16 p.PC, .bool p.F.N, .bool p.F.V, .bool p.F.D, .bool p.F.I, .bool p.F.Z, .bool p.F.C], .agg #[.slice A1 L.length c1]]) ∧ p.ok ∧ L.length ≤ 8192 ∧ (∀ i, 0 ≤ rd L i ∧ rd L i < 256) ∧ OwnB w' w.heap.size (.slice A1 L.length c1) L ∧ Below w.heap.size w w' := by
  have HB := hR w; go_enter Tryz.func12, Tryz.ntmps12
  go_wp2_with fail
  refine Calls.mono (spec_l01New A c l _ (h.below (blw)) hl) ?_; rintro _ w1 ⟨g, rfl, g0, hc, hb⟩; have hg : g < w1.heap.size := World.block_lt_of_cell? w1 _ hc.b; simp only [sA] at g0; have K : Aside0 (Many w1 [(w.heap.size, #[.int .u8 0, .int .u8 0, .int .u8 0, .int .u8 0, .int .u16 0, .bool false, .bool false, .bool false, .bool false, .bool false, .bool false], 28), (w.heap.size + 1, #[.slice none 0 0], 30)]) := ⟨Many.below (Many.cons ((Blk.at rfl).alloc _) (Many.cons (Blk.at (by simp)) (Many.nil _))) hb⟩; have hz1 := hb.size; simp only [sA] at hz1; replace HB := Aside0.mk (below_step (w := w) (blw) hb); clear hb
  go_wp2_with fail; refine Calls.mono (spec_l06Small g A c l _ hc hl) ?_; rintro _ w2 ⟨p, R, A2, c2, rfl, hp0, hR, hRb, ho, hc2, hb2⟩; replace K := Aside0.mk (Many.grown K.out hb2 (by simp; omega)); have hz2 := hb2.size; replace HB := Aside0.mk (Below.grown HB.out hb2 (by omega) (fun k e => by injection e with e; omega)); have O := Aside0.mk (OwnX.of ho); clear hb2 ho hc
  go_wp2_with fail
  refine Calls.mono (spec_l01Once g A c l 20 _ (hc2.below (blw)) hl (by omega) (by omega)) ?_; rintro _ w3 ⟨b, rfl, hc3, hb3⟩; replace K : Aside0 (Many w3 [(w2.heap.size, #[.int .u8 p.A, .int .u8 p.X, .int .u8 p.Y, .int .u8 p.S, .int .u16 p.PC, .bool p.F.N, .bool p.F.V, .bool p.F.D, .bool p.F.I, .bool p.F.Z, .bool p.F.C], 28), (w2.heap.size + 1, #[.slice A2 R.length c2], 30), (w.heap.size, #[.int .u8 0, .int .u8 0, .int .u8 0, .int .u8 0, .int .u16 0, .bool false, .bool false, .bool false, .bool false, .bool false, .bool false], 28), (w.heap.size + 1, #[.slice none 0 0], 30)]) := ⟨Many.grown (Many.cons ((Blk.at rfl).alloc _) (Many.cons (Blk.at (by simp)) ((K.out.alloc _).alloc _))) hb3 (by simp; omega)⟩; have hz3 := hb3.size; simp only [sA] at hz3; replace HB := Aside0.mk (Below.grown (row := some g) (blw : Below w.heap.size w ((w2.alloc (.cells #[.int .u8 p.A, .int .u8 p.X, .int .u8 p.Y, .int .u8 p.S, .int .u16 p.PC, .bool p.F.N, .bool p.F.V, .bool p.F.D, .bool p.F.I, .bool p.F.Z, .bool p.F.C] 28)).alloc (.cells #[.slice A2 R.length c2] 30))) hb3 (by (first | omega | (simp only [sA, sC, sD] <;> omega) | (simp <;> omega))) (fun k e => by injection e with e; omega)); replace O := Aside0.mk (OwnX.grown (OwnX.below O.out (blw)) hb3 (fun k e => by injection e with e; omega)); clear hb3 hc2
  obtain ⟨e0, e1, e2, e3, e4, e5, e6, e7, e8, e9, e10⟩ := (K.out.at 0 rfl).cpu; have r5 := (K.out.at 1 rfl).one; obtain ⟨z0, z1, z2, z3, z4, z5, z6, z7, z8, z9, z10⟩ := Blk.cpu (c := ⟨0, 0, 0, 0, 0, ⟨false, false, false, false, false, false⟩⟩) (K.out.at 2 rfl); have y0 := (K.out.at 3 rfl).one; have fA := (K.out.at 2 rfl).free; have fB := (K.out.at 3 rfl).free
  cases b
  · go_wp2_with fail
    go_region
    go_wp2_with fail
    (refine bodyPost_ret (v := .tuple #[.agg #[.int .u8 p.A, .int .u8 p.X, .int .u8 p.Y, .int .u8 p.S, .int .u16 p.PC, .bool p.F.N, .bool p.F.V, .bool p.F.D, .bool p.F.I, .bool p.F.Z, .bool p.F.C], .agg #[.slice A2 R.length c2]]) (by (simp only [results, Tryz.results12]; go_simp <;> (rfl))) rfl ?_)
    exact ⟨p, R, A2, c2, rfl, hp0, by omega, hRb, OwnB.lower (OwnX.b (O.out.step (fun k h1 h2 => by (repeat (with_reducible first | exact Same.refl _ _ | (refine Same.putC ?_ ?_; rotate_left; (first | omega | (simp only [sA, sC, sD] <;> omega) | (simp <;> omega))) | (refine Same.set ?_ ?_; rotate_left; (first | omega | (simp only [sA, sC, sD] <;> omega) | (simp <;> omega))) | (refine Same.alloc ?_ ?_; rotate_left; (first | omega | (simp only [sA, sC, sD] <;> omega) | (simp <;> omega))) | refine Same.drew ?_))))) (by omega), blw⟩
  · go_wp2_with fail
    go_region_held3 (fun w' => w'.cell? ⟨w2.heap.size, 0, none⟩ = some (.int .u8 p.A) ∧ w'.cell? ⟨w2.heap.size, 1, none⟩ = some (.int .u8 p.X) ∧ w'.cell? ⟨w2.heap.size, 2, none⟩ = some (.int .u8 p.Y) ∧ w'.cell? ⟨w2.heap.size, 3, none⟩ = some (.int .u8 p.S) ∧ w'.cell? ⟨w2.heap.size, 4, none⟩ = some (.int .u16 p.PC) ∧ w'.cell? ⟨w2.heap.size, 5, none⟩ = some (.bool p.F.N) ∧ w'.cell? ⟨w2.heap.size, 6, none⟩ = some (.bool p.F.V) ∧ w'.cell? ⟨w2.heap.size, 7, none⟩ = some (.bool p.F.D) ∧ w'.cell? ⟨w2.heap.size, 8, none⟩ = some (.bool p.F.I) ∧ w'.cell? ⟨w2.heap.size, 9, none⟩ = some (.bool p.F.Z) ∧ w'.cell? ⟨w2.heap.size, 10, none⟩ = some (.bool p.F.C)) (first | (go_keep; done) | (go_split_ands; (repeat' apply And.intro) <;> (first | (with_reducible assumption) | (go_simp; done) | (exact cell_keep blw (by assumption)) | exact blw))) (first | (go_at_call 58; ((with_reducible refine (spec_l05Any g A c l _ (hc3.below (blw)) hl).mono ?_); rintro _ w4 ⟨M, A4, c4, rfl, m0, HL⟩; have k4 : ∀ i, w4.cell? ⟨w2.heap.size, i, none⟩ = w3.drew.cell? ⟨w2.heap.size, i, none⟩ := fun i => World.cell?_of_block (HL.only.block w2.heap.size (by simp; omega) (by intro e; injection e with e; omega)); have hz4 := HL.only.size; simp only [sD] at hz4; have KA := Aside0.mk (blk_grows HL.only _ _ _ (by omega) (K.out.at 2 rfl).drew); have KB := Aside0.mk (blk_grows HL.only _ _ _ (by omega) (K.out.at 3 rfl).drew); have fA4 := KA.out.free; have fB4 := KB.out.free; obtain ⟨x0, x1, x2, x3, x4, x5, x6, x7, x8, x9, x10⟩ := Blk.cpu (c := ⟨0, 0, 0, 0, 0, ⟨false, false, false, false, false, false⟩⟩) KA.out; have x11 := KB.out.one; have HM := Aside0.mk (OwnX.of HL.own); have HB4 := Aside0.mk (Below.grown (row := some g) (blw : Below w.heap.size w w3.drew) HL.only (by (first | omega | (simp only [sA, sC, sD] <;> omega) | (simp <;> omega))) (fun k e => by injection e with e; omega)); have hMb := rd_lit2 M HL.b; clear HL)))
    go_wp2_with fail
    (refine bodyPost_ret (v := .tuple #[.agg #[.int .u8 p.A, .int .u8 p.X, .int .u8 p.Y, .int .u8 p.S, .int .u16 p.PC, .bool p.F.N, .bool p.F.V, .bool p.F.D, .bool p.F.I, .bool p.F.Z, .bool p.F.C], .agg #[.slice A4 M.length c4]]) (by (simp only [results, Tryz.results12]; go_simp <;> (rfl))) rfl ?_)
    exact ⟨p, M, A4, c4, rfl, hp0, by omega, hMb, OwnB.lower (OwnX.b (HM.out.step (fun k h1 h2 => by simp only [sD] at h1; (repeat (with_reducible first | exact Same.refl _ _ | (refine Same.putC ?_ ?_; rotate_left; (first | omega | (simp only [sA, sC, sD] <;> omega) | (simp <;> omega))) | (refine Same.set ?_ ?_; rotate_left; (first | omega | (simp only [sA, sC, sD] <;> omega) | (simp <;> omega))) | (refine Same.alloc ?_ ?_; rotate_left; (first | omega | (simp only [sA, sC, sD] <;> omega) | (simp <;> omega))) | refine Same.drew ?_))))) (by simp; omega), blw⟩
end Go.Proofs.YtghmeghbekkanaaGreatDoor
