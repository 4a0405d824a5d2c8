/- Rows, read by the program. -/
import Derived.Test.YthlmddcjbhacmaaDoorRowM
set_option linter.unusedVariables false
set_option linter.unusedSimpArgs false
namespace Go.Proofs.YthlmddcjbhacmaaDoor
open Go.RowKit Go.Proofs.YthlmddcjbhacmaaDoorW.PrintWords
def rrI (o : Option (Int × Kn × List UInt8)) : Int := match o with | some x => x.1 | none => 0
def rrK (o : Option (Int × Kn × List UInt8)) : Kn := match o with | some x => x.2.1 | none => kn0
def rrT (o : Option (Int × Kn × List UInt8)) : List UInt8 := match o with | some x => x.2.2 | none => []
theorem index_row (l : List UInt8) : (Lib.index l [32] = -1 ∧ row0 l = l) ∨ (Lib.index l [32] = ((row0 l).length : Int) ∧ (row0 l).length < l.length) := by
  unfold row0
  induction l with
  | nil => exact .inl ⟨rfl, rfl⟩
  | cons b l ih =>
    by_cases hb : b = 32
    · subst hb
      refine .inr ⟨?_, by simp⟩
      unfold Lib.index
      rw [if_pos (by simp [List.isPrefixOf])]
      simp
    · have hp : ([32] : List UInt8).isPrefixOf (b :: l) = false := by
        simp [List.isPrefixOf]
        exact fun e => hb e.symm
      rw [List.takeWhile_cons_of_pos (by simpa using hb)]
      rcases ih with ⟨h1, h2⟩ | ⟨h1, h2⟩
      · refine .inl ⟨?_, by rw [h2]⟩
        unfold Lib.index
        rw [hp, h1]
        rfl
      · refine .inr ⟨?_, by simpa using h2⟩
        unfold Lib.index
        rw [hp, h1]
        have : (((l.takeWhile (· ≠ 32)).length : Int) == -1) = false := by rw [beq_eq_false_iff_ne]; omega
        simp [this]
theorem cut_row (l : List UInt8) : (Lib.cut l [32]).1 = row0 l ∧ (Lib.cut l [32]).2.1 = row1 l := by
  unfold Lib.cut row1
  rcases index_row l with ⟨h1, h2⟩ | ⟨h1, h2⟩
  · rw [h1, if_neg (by decide)]
    exact ⟨h2.symm, by rw [h2, List.drop_of_length_le (by omega)]⟩
  · rw [h1, if_pos (by omega), Int.toNat_natCast]
    refine ⟨?_, rfl⟩
    unfold row0
    exact (List.prefix_iff_eq_take.1 (List.takeWhile_prefix _)).symm
theorem row1_len (l : List UInt8) : (row1 l).length ≤ l.length := by unfold row1; simp
set_option maxRecDepth 100000 in
set_option maxHeartbeats 4000000 in
theorem impl_ReadRow (l : List UInt8) (w : World) (hm : l.length ≤ 1048576) (he : EnvR w) :
    Calls Tryd.prog 16 #[.string ⟨l.toArray⟩] w fun e w' => e = .returned (.tuple #[.int .i64 (rrI (readRow l)), .agg #[.int .i64 (rrK (readRow l)).A, .int .i64 (rrK (readRow l)).X, .int .i64 (rrK (readRow l)).Y, .int .i64 (rrK (readRow l)).S, .int .i64 (rrK (readRow l)).PC, .int .i64 (rrK (readRow l)).N, .int .i64 (rrK (readRow l)).V, .int .i64 (rrK (readRow l)).D, .int .i64 (rrK (readRow l)).I, .int .i64 (rrK (readRow l)).Z, .int .i64 (rrK (readRow l)).C], .string ⟨(rrT (readRow l)).toArray⟩, .bool (readRow l).isSome]) ∧ Below w.heap.size w w' := by
  have hsz := ba_size l
  obtain ⟨mx, hmx⟩ := he.mx
  have hcut := fun (W : World) (h : W.cell? ⟨0, 0, none⟩ = some (.int .i64 mx)) => Tryd.strings_Cut ⟨l.toArray⟩ ⟨#[32]⟩ mx W (by rw [hsz]; omega) h
  rw [show (⟨l.toArray⟩ : ByteArray).data.toList = l from rfl, show (⟨#[32]⟩ : ByteArray).data.toList = [32] from rfl, (cut_row l).1, (cut_row l).2] at hcut
  have hno := fun W => impl_nothing W
  have hmo := fun W => impl_KnowText knN W
  have qm : (knT knN).length = 34 := knT_len (by decide)
  generalize knT knN = M at hmo qm
  have hrd := fun W e => impl_ReadDec (row0 l) W (by unfold row0; have := (List.takeWhile_prefix (l := l) (· ≠ (32 : UInt8))).length_le; omega) e
  have hl1 := row1_len l
  have hrk := fun W => impl_ReadKnow ((row1 l).take 34) W (by simp; omega)
  have q1 := ba_size (row1 l)
  have x0 := ba_cut (row1 l) 0 34
  have hRR := fun (h0 : 0 ≤ readDec (row0 l)) (h1 : 34 < (row1 l).length) => readRow_I l _ rfl h0 h1
  have hdm := fun (h0 : 0 ≤ readDec (row0 l)) => (readDec_some h0).2
  have hlo : (readDec (row0 l)) < 0 ∨ (row1 l).length ≤ 34 → readRow l = none := fun h => if_pos (by rcases h with h | h; exact .inl h; exact .inr (.inl h))
  generalize hr1 : row1 l = r at *
  generalize (Lib.cut l [32]).2.2 = fnd at *
  obtain ⟨i, hi⟩ : ∃ i, readDec (row0 l) = i := ⟨_, rfl⟩
  rw [hi] at hRR hdm hlo
  have hrd : ∀ W (e : EnvR W), Calls Tryd.prog 46 #[.string ⟨(row0 l).toArray⟩] W fun e w' => e = .returned (.int .i64 i) ∧ Below W.heap.size W w' := fun W e => by rw [← hi]; exact hrd W e
  clear hi hr1
  have B0 := Aside0.mk (Blk.at (w := w) (g := w.heap.size) (cs := #[.int .i64 0, .int .i64 0, .int .i64 0, .int .i64 0, .int .i64 0, .int .i64 0, .int .i64 0, .int .i64 0, .int .i64 0, .int .i64 0, .int .i64 0]) (t := 32) rfl)
  by_cases hi0 : i < 0
  · rw [hlo (.inl hi0)]
    have HB := hR w; go_enter Tryd.func16, Tryd.ntmps16
    go_wp2_with fail
    refine Calls.mono (hcut _ (cell_keep (blw) hmx)) ?_
    rintro _ w1 ⟨rfl, n1, hw1⟩
    have hb : Below (w.alloc (.cells #[.int .i64 0, .int .i64 0, .int .i64 0, .int .i64 0, .int .i64 0, .int .i64 0, .int .i64 0, .int .i64 0, .int .i64 0, .int .i64 0, .int .i64 0] 32)).heap.size (w.alloc (.cells #[.int .i64 0, .int .i64 0, .int .i64 0, .int .i64 0, .int .i64 0, .int .i64 0, .int .i64 0, .int .i64 0, .int .i64 0, .int .i64 0, .int .i64 0] 32)) w1 := by rw [hw1]; exact pw_below_drewN (Below.refl _ _) n1
    clear hw1
    have RB := Aside0.mk (B0.out.below hb)
    (have HB := Aside0.mk (below_step (w := w) blw hb); have hz1 := hb.size; obtain ⟨hcl1, hfr1, hlt1, _⟩ := bcell hb; (try simp only [sA, sC, sD] at hz1); (try simp only [sA, sC, sD] at hcl1 hfr1 hlt1); have hk1_0 : w.heap.size < w1.heap.size := (by omega); have HB1 := hR w1; clear hb)
    go_wp2_with fail
    refine Calls.mono (hno _) ?_
    rintro _ w2 ⟨rfl, hb⟩
    replace RB := Aside0.mk (RB.out.below hb)
    (have HB := Aside0.mk (below_step (w := w) blw hb); have hz2 := hb.size; obtain ⟨hcl2, hfr2, hlt2, _⟩ := bcell hb; (try simp only [sA, sC, sD] at hz2); (try simp only [sA, sC, sD] at hcl2 hfr2 hlt2); have hk2_0 : w.heap.size < w2.heap.size := (by omega); have HB2 := hR w2; clear hb)
    go_wp2_with fail
    refine Calls.mono (hmo _) ?_
    rintro _ w3 ⟨rfl, hb⟩
    replace RB := Aside0.mk (RB.out.below hb)
    (have HB := Aside0.mk (below_step (w := w) blw hb); have hz3 := hb.size; obtain ⟨hcl3, hfr3, hlt3, _⟩ := bcell hb; (try simp only [sA, sC, sD] at hz3); (try simp only [sA, sC, sD] at hcl3 hfr3 hlt3); have hk3_0 : w.heap.size < w3.heap.size := (by omega); have HB3 := hR w3; clear hb)
    go_wp2_with fail
    refine Calls.mono (hrd _ (he.below HB.out)) ?_
    rintro _ w4 ⟨rfl, hb⟩
    replace RB := Aside0.mk (RB.out.below hb)
    (have HB := Aside0.mk (below_step (w := w) blw hb); have hz4 := hb.size; obtain ⟨hcl4, hfr4, hlt4, _⟩ := bcell hb; (try simp only [sA, sC, sD] at hz4); (try simp only [sA, sC, sD] at hcl4 hfr4 hlt4); have hk4_0 : w.heap.size < w4.heap.size := (by omega); have HB4 := hR w4; clear hb)
    have p0 : w4.cell? ⟨w.heap.size, 0, none⟩ = some (.int .i64 0) := RB.out.cell 0
    have z0 := RB.out.free 0
    have p1 : w4.cell? ⟨w.heap.size, 1, none⟩ = some (.int .i64 0) := RB.out.cell 1
    have z1 := RB.out.free 1
    have p2 : w4.cell? ⟨w.heap.size, 2, none⟩ = some (.int .i64 0) := RB.out.cell 2
    have z2 := RB.out.free 2
    have p3 : w4.cell? ⟨w.heap.size, 3, none⟩ = some (.int .i64 0) := RB.out.cell 3
    have z3 := RB.out.free 3
    have p4 : w4.cell? ⟨w.heap.size, 4, none⟩ = some (.int .i64 0) := RB.out.cell 4
    have z4 := RB.out.free 4
    have p5 : w4.cell? ⟨w.heap.size, 5, none⟩ = some (.int .i64 0) := RB.out.cell 5
    have z5 := RB.out.free 5
    have p6 : w4.cell? ⟨w.heap.size, 6, none⟩ = some (.int .i64 0) := RB.out.cell 6
    have z6 := RB.out.free 6
    have p7 : w4.cell? ⟨w.heap.size, 7, none⟩ = some (.int .i64 0) := RB.out.cell 7
    have z7 := RB.out.free 7
    have p8 : w4.cell? ⟨w.heap.size, 8, none⟩ = some (.int .i64 0) := RB.out.cell 8
    have z8 := RB.out.free 8
    have p9 : w4.cell? ⟨w.heap.size, 9, none⟩ = some (.int .i64 0) := RB.out.cell 9
    have z9 := RB.out.free 9
    have p10 : w4.cell? ⟨w.heap.size, 10, none⟩ = some (.int .i64 0) := RB.out.cell 10
    have z10 := RB.out.free 10
    go_wp2_with fail
    (refine bodyPost_ret (v := .tuple #[.int .i64 0, .agg #[.int .i64 0, .int .i64 0, .int .i64 0, .int .i64 0, .int .i64 0, .int .i64 0, .int .i64 0, .int .i64 0, .int .i64 0, .int .i64 0, .int .i64 0], .string ⟨#[]⟩, .bool false]) (by (simp only [results, Tryd.results16]; go_simp <;> (rfl))) rfl ?_)
    exact ⟨rfl, blw⟩
  by_cases hr34 : (r.length : Int) ≤ 34
  · rw [hlo (.inr (by omega))]
    have HB := hR w; go_enter Tryd.func16, Tryd.ntmps16
    go_wp2_with fail
    refine Calls.mono (hcut _ (cell_keep (blw) hmx)) ?_
    rintro _ w1 ⟨rfl, n1, hw1⟩
    have hb : Below (w.alloc (.cells #[.int .i64 0, .int .i64 0, .int .i64 0, .int .i64 0, .int .i64 0, .int .i64 0, .int .i64 0, .int .i64 0, .int .i64 0, .int .i64 0, .int .i64 0] 32)).heap.size (w.alloc (.cells #[.int .i64 0, .int .i64 0, .int .i64 0, .int .i64 0, .int .i64 0, .int .i64 0, .int .i64 0, .int .i64 0, .int .i64 0, .int .i64 0, .int .i64 0] 32)) w1 := by rw [hw1]; exact pw_below_drewN (Below.refl _ _) n1
    clear hw1
    have RB := Aside0.mk (B0.out.below hb)
    (have HB := Aside0.mk (below_step (w := w) blw hb); have hz1 := hb.size; obtain ⟨hcl1, hfr1, hlt1, _⟩ := bcell hb; (try simp only [sA, sC, sD] at hz1); (try simp only [sA, sC, sD] at hcl1 hfr1 hlt1); have hk1_0 : w.heap.size < w1.heap.size := (by omega); have HB1 := hR w1; clear hb)
    go_wp2_with fail
    refine Calls.mono (hno _) ?_
    rintro _ w2 ⟨rfl, hb⟩
    replace RB := Aside0.mk (RB.out.below hb)
    (have HB := Aside0.mk (below_step (w := w) blw hb); have hz2 := hb.size; obtain ⟨hcl2, hfr2, hlt2, _⟩ := bcell hb; (try simp only [sA, sC, sD] at hz2); (try simp only [sA, sC, sD] at hcl2 hfr2 hlt2); have hk2_0 : w.heap.size < w2.heap.size := (by omega); have HB2 := hR w2; clear hb)
    go_wp2_with fail
    refine Calls.mono (hmo _) ?_
    rintro _ w3 ⟨rfl, hb⟩
    replace RB := Aside0.mk (RB.out.below hb)
    (have HB := Aside0.mk (below_step (w := w) blw hb); have hz3 := hb.size; obtain ⟨hcl3, hfr3, hlt3, _⟩ := bcell hb; (try simp only [sA, sC, sD] at hz3); (try simp only [sA, sC, sD] at hcl3 hfr3 hlt3); have hk3_0 : w.heap.size < w3.heap.size := (by omega); have HB3 := hR w3; clear hb)
    go_wp2_with fail
    refine Calls.mono (hrd _ (he.below HB.out)) ?_
    rintro _ w4 ⟨rfl, hb⟩
    replace RB := Aside0.mk (RB.out.below hb)
    (have HB := Aside0.mk (below_step (w := w) blw hb); have hz4 := hb.size; obtain ⟨hcl4, hfr4, hlt4, _⟩ := bcell hb; (try simp only [sA, sC, sD] at hz4); (try simp only [sA, sC, sD] at hcl4 hfr4 hlt4); have hk4_0 : w.heap.size < w4.heap.size := (by omega); have HB4 := hR w4; clear hb)
    have p0 : w4.cell? ⟨w.heap.size, 0, none⟩ = some (.int .i64 0) := RB.out.cell 0
    have z0 := RB.out.free 0
    have p1 : w4.cell? ⟨w.heap.size, 1, none⟩ = some (.int .i64 0) := RB.out.cell 1
    have z1 := RB.out.free 1
    have p2 : w4.cell? ⟨w.heap.size, 2, none⟩ = some (.int .i64 0) := RB.out.cell 2
    have z2 := RB.out.free 2
    have p3 : w4.cell? ⟨w.heap.size, 3, none⟩ = some (.int .i64 0) := RB.out.cell 3
    have z3 := RB.out.free 3
    have p4 : w4.cell? ⟨w.heap.size, 4, none⟩ = some (.int .i64 0) := RB.out.cell 4
    have z4 := RB.out.free 4
    have p5 : w4.cell? ⟨w.heap.size, 5, none⟩ = some (.int .i64 0) := RB.out.cell 5
    have z5 := RB.out.free 5
    have p6 : w4.cell? ⟨w.heap.size, 6, none⟩ = some (.int .i64 0) := RB.out.cell 6
    have z6 := RB.out.free 6
    have p7 : w4.cell? ⟨w.heap.size, 7, none⟩ = some (.int .i64 0) := RB.out.cell 7
    have z7 := RB.out.free 7
    have p8 : w4.cell? ⟨w.heap.size, 8, none⟩ = some (.int .i64 0) := RB.out.cell 8
    have z8 := RB.out.free 8
    have p9 : w4.cell? ⟨w.heap.size, 9, none⟩ = some (.int .i64 0) := RB.out.cell 9
    have z9 := RB.out.free 9
    have p10 : w4.cell? ⟨w.heap.size, 10, none⟩ = some (.int .i64 0) := RB.out.cell 10
    have z10 := RB.out.free 10
    go_wp2_with fail
    (refine bodyPost_ret (v := .tuple #[.int .i64 0, .agg #[.int .i64 0, .int .i64 0, .int .i64 0, .int .i64 0, .int .i64 0, .int .i64 0, .int .i64 0, .int .i64 0, .int .i64 0, .int .i64 0, .int .i64 0], .string ⟨#[]⟩, .bool false]) (by (simp only [results, Tryd.results16]; go_simp <;> (rfl))) rfl ?_)
    exact ⟨rfl, blw⟩
  have hE := hRR (by omega) (by omega)
  have hrow := fun (k : Kn) W e => impl_Row i k (r.drop 35) W (by have := hdm (by omega); omega) (by simp; omega) e
  have x35 : (⟨r.toArray⟩ : ByteArray).extract 35 r.length = ⟨(r.drop 35).toArray⟩ := by
    apply ByteArray.ext
    rw [ByteArray.data_extract]
    simp
    exact List.take_of_length_le (by simp)
  clear hRR hlo hdm
  have hx34 : (cutB r 0 34) = r.take 34 := by unfold cutB; simp
  rw [hx34] at x0
  have hi1 : ¬ i < 0 := hi0
  cases hk : readKn (r.take 34) with
  | none =>
    rw [hk] at hrk hE
    rw [← hE]
    have hrk : ∀ W, Calls Tryd.prog 47 #[.string ⟨(r.take 34).toArray⟩] W fun e w' => e = .returned (.tuple #[.agg #[.int .i64 0, .int .i64 0, .int .i64 0, .int .i64 0, .int .i64 0, .int .i64 0, .int .i64 0, .int .i64 0, .int .i64 0, .int .i64 0, .int .i64 0], .bool false]) ∧ Below W.heap.size W w' := hrk
    have HB := hR w; go_enter Tryd.func16, Tryd.ntmps16
    go_wp2_with fail
    refine Calls.mono (hcut _ (cell_keep (blw) hmx)) ?_
    rintro _ w1 ⟨rfl, n1, hw1⟩
    have hb : Below (w.alloc (.cells #[.int .i64 0, .int .i64 0, .int .i64 0, .int .i64 0, .int .i64 0, .int .i64 0, .int .i64 0, .int .i64 0, .int .i64 0, .int .i64 0, .int .i64 0] 32)).heap.size (w.alloc (.cells #[.int .i64 0, .int .i64 0, .int .i64 0, .int .i64 0, .int .i64 0, .int .i64 0, .int .i64 0, .int .i64 0, .int .i64 0, .int .i64 0, .int .i64 0] 32)) w1 := by rw [hw1]; exact pw_below_drewN (Below.refl _ _) n1
    clear hw1
    have RB := Aside0.mk (B0.out.below hb)
    (have HB := Aside0.mk (below_step (w := w) blw hb); have hz1 := hb.size; obtain ⟨hcl1, hfr1, hlt1, _⟩ := bcell hb; (try simp only [sA, sC, sD] at hz1); (try simp only [sA, sC, sD] at hcl1 hfr1 hlt1); have hk1_0 : w.heap.size < w1.heap.size := (by omega); have HB1 := hR w1; clear hb)
    go_wp2_with fail
    refine Calls.mono (hno _) ?_
    rintro _ w2 ⟨rfl, hb⟩
    replace RB := Aside0.mk (RB.out.below hb)
    (have HB := Aside0.mk (below_step (w := w) blw hb); have hz2 := hb.size; obtain ⟨hcl2, hfr2, hlt2, _⟩ := bcell hb; (try simp only [sA, sC, sD] at hz2); (try simp only [sA, sC, sD] at hcl2 hfr2 hlt2); have hk2_0 : w.heap.size < w2.heap.size := (by omega); have HB2 := hR w2; clear hb)
    go_wp2_with fail
    refine Calls.mono (hmo _) ?_
    rintro _ w3 ⟨rfl, hb⟩
    replace RB := Aside0.mk (RB.out.below hb)
    (have HB := Aside0.mk (below_step (w := w) blw hb); have hz3 := hb.size; obtain ⟨hcl3, hfr3, hlt3, _⟩ := bcell hb; (try simp only [sA, sC, sD] at hz3); (try simp only [sA, sC, sD] at hcl3 hfr3 hlt3); have hk3_0 : w.heap.size < w3.heap.size := (by omega); have HB3 := hR w3; clear hb)
    go_wp2_with fail
    refine Calls.mono (hrd _ (he.below HB.out)) ?_
    rintro _ w4 ⟨rfl, hb⟩
    replace RB := Aside0.mk (RB.out.below hb)
    (have HB := Aside0.mk (below_step (w := w) blw hb); have hz4 := hb.size; obtain ⟨hcl4, hfr4, hlt4, _⟩ := bcell hb; (try simp only [sA, sC, sD] at hz4); (try simp only [sA, sC, sD] at hcl4 hfr4 hlt4); have hk4_0 : w.heap.size < w4.heap.size := (by omega); have HB4 := hR w4; clear hb)
    go_wp2_with fail
    refine Calls.mono (hrk _) ?_
    rintro _ w5 ⟨rfl, hb⟩
    replace RB := Aside0.mk (RB.out.below hb)
    (have HB := Aside0.mk (below_step (w := w) blw hb); have hz5 := hb.size; obtain ⟨hcl5, hfr5, hlt5, _⟩ := bcell hb; (try simp only [sA, sC, sD] at hz5); (try simp only [sA, sC, sD] at hcl5 hfr5 hlt5); have hk5_0 : w.heap.size < w5.heap.size := (by omega); have HB5 := hR w5; clear hb)
    have hk5b : w.heap.size < w5.heap.size + 1 := by omega
    have p0 : w5.cell? ⟨w.heap.size, 0, none⟩ = some (.int .i64 0) := RB.out.cell 0
    have z0 := RB.out.free 0
    have p1 : w5.cell? ⟨w.heap.size, 1, none⟩ = some (.int .i64 0) := RB.out.cell 1
    have z1 := RB.out.free 1
    have p2 : w5.cell? ⟨w.heap.size, 2, none⟩ = some (.int .i64 0) := RB.out.cell 2
    have z2 := RB.out.free 2
    have p3 : w5.cell? ⟨w.heap.size, 3, none⟩ = some (.int .i64 0) := RB.out.cell 3
    have z3 := RB.out.free 3
    have p4 : w5.cell? ⟨w.heap.size, 4, none⟩ = some (.int .i64 0) := RB.out.cell 4
    have z4 := RB.out.free 4
    have p5 : w5.cell? ⟨w.heap.size, 5, none⟩ = some (.int .i64 0) := RB.out.cell 5
    have z5 := RB.out.free 5
    have p6 : w5.cell? ⟨w.heap.size, 6, none⟩ = some (.int .i64 0) := RB.out.cell 6
    have z6 := RB.out.free 6
    have p7 : w5.cell? ⟨w.heap.size, 7, none⟩ = some (.int .i64 0) := RB.out.cell 7
    have z7 := RB.out.free 7
    have p8 : w5.cell? ⟨w.heap.size, 8, none⟩ = some (.int .i64 0) := RB.out.cell 8
    have z8 := RB.out.free 8
    have p9 : w5.cell? ⟨w.heap.size, 9, none⟩ = some (.int .i64 0) := RB.out.cell 9
    have z9 := RB.out.free 9
    have p10 : w5.cell? ⟨w.heap.size, 10, none⟩ = some (.int .i64 0) := RB.out.cell 10
    have z10 := RB.out.free 10
    go_wp2_with fail
    (refine bodyPost_ret (v := .tuple #[.int .i64 0, .agg #[.int .i64 0, .int .i64 0, .int .i64 0, .int .i64 0, .int .i64 0, .int .i64 0, .int .i64 0, .int .i64 0, .int .i64 0, .int .i64 0, .int .i64 0], .string ⟨#[]⟩, .bool false]) (by (simp only [results, Tryd.results16]; go_simp <;> (rfl))) rfl ?_)
    exact ⟨rfl, blw⟩
  | some k =>
    rw [hk] at hrk hE
    have hrk : ∀ W, Calls Tryd.prog 47 #[.string ⟨(r.take 34).toArray⟩] W fun e w' => e = .returned (.tuple #[.agg #[.int .i64 k.A, .int .i64 k.X, .int .i64 k.Y, .int .i64 k.S, .int .i64 k.PC, .int .i64 k.N, .int .i64 k.V, .int .i64 k.D, .int .i64 k.I, .int .i64 k.Z, .int .i64 k.C], .bool true]) ∧ Below W.heap.size W w' := hrk
    by_cases hq : rowT i k (r.drop 35) = l
    · have hq' : (rowT i k (r.drop 35) == l) = true := by simp [hq]
      have HQ := Aside0.mk (show readRow l = some (i, k, r.drop 35) by rw [← hE]; exact if_pos hq)
      clear hq hE
      have HB := hR w; go_enter Tryd.func16, Tryd.ntmps16
      go_wp2_with fail
      refine Calls.mono (hcut _ (cell_keep (blw) hmx)) ?_
      rintro _ w1 ⟨rfl, n1, hw1⟩
      have hb : Below (w.alloc (.cells #[.int .i64 0, .int .i64 0, .int .i64 0, .int .i64 0, .int .i64 0, .int .i64 0, .int .i64 0, .int .i64 0, .int .i64 0, .int .i64 0, .int .i64 0] 32)).heap.size (w.alloc (.cells #[.int .i64 0, .int .i64 0, .int .i64 0, .int .i64 0, .int .i64 0, .int .i64 0, .int .i64 0, .int .i64 0, .int .i64 0, .int .i64 0, .int .i64 0] 32)) w1 := by rw [hw1]; exact pw_below_drewN (Below.refl _ _) n1
      clear hw1
      have RB := Aside0.mk (B0.out.below hb)
      (have HB := Aside0.mk (below_step (w := w) blw hb); have hz1 := hb.size; obtain ⟨hcl1, hfr1, hlt1, _⟩ := bcell hb; (try simp only [sA, sC, sD] at hz1); (try simp only [sA, sC, sD] at hcl1 hfr1 hlt1); have hk1_0 : w.heap.size < w1.heap.size := (by omega); have HB1 := hR w1; clear hb)
      go_wp2_with fail
      refine Calls.mono (hno _) ?_
      rintro _ w2 ⟨rfl, hb⟩
      replace RB := Aside0.mk (RB.out.below hb)
      (have HB := Aside0.mk (below_step (w := w) blw hb); have hz2 := hb.size; obtain ⟨hcl2, hfr2, hlt2, _⟩ := bcell hb; (try simp only [sA, sC, sD] at hz2); (try simp only [sA, sC, sD] at hcl2 hfr2 hlt2); have hk2_0 : w.heap.size < w2.heap.size := (by omega); have HB2 := hR w2; clear hb)
      go_wp2_with fail
      refine Calls.mono (hmo _) ?_
      rintro _ w3 ⟨rfl, hb⟩
      replace RB := Aside0.mk (RB.out.below hb)
      (have HB := Aside0.mk (below_step (w := w) blw hb); have hz3 := hb.size; obtain ⟨hcl3, hfr3, hlt3, _⟩ := bcell hb; (try simp only [sA, sC, sD] at hz3); (try simp only [sA, sC, sD] at hcl3 hfr3 hlt3); have hk3_0 : w.heap.size < w3.heap.size := (by omega); have HB3 := hR w3; clear hb)
      go_wp2_with fail
      refine Calls.mono (hrd _ (he.below HB.out)) ?_
      rintro _ w4 ⟨rfl, hb⟩
      replace RB := Aside0.mk (RB.out.below hb)
      (have HB := Aside0.mk (below_step (w := w) blw hb); have hz4 := hb.size; obtain ⟨hcl4, hfr4, hlt4, _⟩ := bcell hb; (try simp only [sA, sC, sD] at hz4); (try simp only [sA, sC, sD] at hcl4 hfr4 hlt4); have hk4_0 : w.heap.size < w4.heap.size := (by omega); have HB4 := hR w4; clear hb)
      go_wp2_with fail
      refine Calls.mono (hrk _) ?_
      rintro _ w5 ⟨rfl, hb⟩
      replace RB := Aside0.mk (RB.out.below hb)
      (have HB := Aside0.mk (below_step (w := w) blw hb); have hz5 := hb.size; obtain ⟨hcl5, hfr5, hlt5, _⟩ := bcell hb; (try simp only [sA, sC, sD] at hz5); (try simp only [sA, sC, sD] at hcl5 hfr5 hlt5); have hk5_0 : w.heap.size < w5.heap.size := (by omega); have HB5 := hR w5; clear hb)
      have hk5b : w.heap.size < w5.heap.size + 1 := by omega
      have p0 : w5.cell? ⟨w.heap.size, 0, none⟩ = some (.int .i64 0) := RB.out.cell 0
      have z0 := RB.out.free 0
      have p1 : w5.cell? ⟨w.heap.size, 1, none⟩ = some (.int .i64 0) := RB.out.cell 1
      have z1 := RB.out.free 1
      have p2 : w5.cell? ⟨w.heap.size, 2, none⟩ = some (.int .i64 0) := RB.out.cell 2
      have z2 := RB.out.free 2
      have p3 : w5.cell? ⟨w.heap.size, 3, none⟩ = some (.int .i64 0) := RB.out.cell 3
      have z3 := RB.out.free 3
      have p4 : w5.cell? ⟨w.heap.size, 4, none⟩ = some (.int .i64 0) := RB.out.cell 4
      have z4 := RB.out.free 4
      have p5 : w5.cell? ⟨w.heap.size, 5, none⟩ = some (.int .i64 0) := RB.out.cell 5
      have z5 := RB.out.free 5
      have p6 : w5.cell? ⟨w.heap.size, 6, none⟩ = some (.int .i64 0) := RB.out.cell 6
      have z6 := RB.out.free 6
      have p7 : w5.cell? ⟨w.heap.size, 7, none⟩ = some (.int .i64 0) := RB.out.cell 7
      have z7 := RB.out.free 7
      have p8 : w5.cell? ⟨w.heap.size, 8, none⟩ = some (.int .i64 0) := RB.out.cell 8
      have z8 := RB.out.free 8
      have p9 : w5.cell? ⟨w.heap.size, 9, none⟩ = some (.int .i64 0) := RB.out.cell 9
      have z9 := RB.out.free 9
      have p10 : w5.cell? ⟨w.heap.size, 10, none⟩ = some (.int .i64 0) := RB.out.cell 10
      have z10 := RB.out.free 10
      go_wp2_with fail
      refine Calls.mono (hrow _ _ (he.below (blw))) ?_
      rintro _ w6 ⟨rfl, hb⟩
      (have HB := Aside0.mk (below_step (w := w) blw hb); have hz6 := hb.size; obtain ⟨hcl6, hfr6, hlt6, _⟩ := bcell hb; (try simp only [sA, sC, sD] at hz6); (try simp only [sA, sC, sD] at hcl6 hfr6 hlt6); have hk6_0 : w.heap.size < w6.heap.size := (by omega); have HB6 := hR w6; clear hb)
      go_wp2_with fail
      go_region
      go_wp2_with fail
      (refine bodyPost_ret (v := .tuple #[.int .i64 i, .agg #[.int .i64 k.A, .int .i64 k.X, .int .i64 k.Y, .int .i64 k.S, .int .i64 k.PC, .int .i64 k.N, .int .i64 k.V, .int .i64 k.D, .int .i64 k.I, .int .i64 k.Z, .int .i64 k.C], .string ⟨(r.drop 35).toArray⟩, .bool true]) (by (simp only [results, Tryd.results16]; go_simp <;> (rfl))) rfl ?_)
      exact ⟨ret_of (by rw [HQ.out]; rfl), blw⟩
    · have hq' : (rowT i k (r.drop 35) == l) = false := by simp [hq]
      have HQ := Aside0.mk (show readRow l = none by rw [← hE]; exact if_neg hq)
      clear hq hE
      have HB := hR w; go_enter Tryd.func16, Tryd.ntmps16
      go_wp2_with fail
      refine Calls.mono (hcut _ (cell_keep (blw) hmx)) ?_
      rintro _ w1 ⟨rfl, n1, hw1⟩
      have hb : Below (w.alloc (.cells #[.int .i64 0, .int .i64 0, .int .i64 0, .int .i64 0, .int .i64 0, .int .i64 0, .int .i64 0, .int .i64 0, .int .i64 0, .int .i64 0, .int .i64 0] 32)).heap.size (w.alloc (.cells #[.int .i64 0, .int .i64 0, .int .i64 0, .int .i64 0, .int .i64 0, .int .i64 0, .int .i64 0, .int .i64 0, .int .i64 0, .int .i64 0, .int .i64 0] 32)) w1 := by rw [hw1]; exact pw_below_drewN (Below.refl _ _) n1
      clear hw1
      have RB := Aside0.mk (B0.out.below hb)
      (have HB := Aside0.mk (below_step (w := w) blw hb); have hz1 := hb.size; obtain ⟨hcl1, hfr1, hlt1, _⟩ := bcell hb; (try simp only [sA, sC, sD] at hz1); (try simp only [sA, sC, sD] at hcl1 hfr1 hlt1); have hk1_0 : w.heap.size < w1.heap.size := (by omega); have HB1 := hR w1; clear hb)
      go_wp2_with fail
      refine Calls.mono (hno _) ?_
      rintro _ w2 ⟨rfl, hb⟩
      replace RB := Aside0.mk (RB.out.below hb)
      (have HB := Aside0.mk (below_step (w := w) blw hb); have hz2 := hb.size; obtain ⟨hcl2, hfr2, hlt2, _⟩ := bcell hb; (try simp only [sA, sC, sD] at hz2); (try simp only [sA, sC, sD] at hcl2 hfr2 hlt2); have hk2_0 : w.heap.size < w2.heap.size := (by omega); have HB2 := hR w2; clear hb)
      go_wp2_with fail
      refine Calls.mono (hmo _) ?_
      rintro _ w3 ⟨rfl, hb⟩
      replace RB := Aside0.mk (RB.out.below hb)
      (have HB := Aside0.mk (below_step (w := w) blw hb); have hz3 := hb.size; obtain ⟨hcl3, hfr3, hlt3, _⟩ := bcell hb; (try simp only [sA, sC, sD] at hz3); (try simp only [sA, sC, sD] at hcl3 hfr3 hlt3); have hk3_0 : w.heap.size < w3.heap.size := (by omega); have HB3 := hR w3; clear hb)
      go_wp2_with fail
      refine Calls.mono (hrd _ (he.below HB.out)) ?_
      rintro _ w4 ⟨rfl, hb⟩
      replace RB := Aside0.mk (RB.out.below hb)
      (have HB := Aside0.mk (below_step (w := w) blw hb); have hz4 := hb.size; obtain ⟨hcl4, hfr4, hlt4, _⟩ := bcell hb; (try simp only [sA, sC, sD] at hz4); (try simp only [sA, sC, sD] at hcl4 hfr4 hlt4); have hk4_0 : w.heap.size < w4.heap.size := (by omega); have HB4 := hR w4; clear hb)
      go_wp2_with fail
      refine Calls.mono (hrk _) ?_
      rintro _ w5 ⟨rfl, hb⟩
      replace RB := Aside0.mk (RB.out.below hb)
      (have HB := Aside0.mk (below_step (w := w) blw hb); have hz5 := hb.size; obtain ⟨hcl5, hfr5, hlt5, _⟩ := bcell hb; (try simp only [sA, sC, sD] at hz5); (try simp only [sA, sC, sD] at hcl5 hfr5 hlt5); have hk5_0 : w.heap.size < w5.heap.size := (by omega); have HB5 := hR w5; clear hb)
      have hk5b : w.heap.size < w5.heap.size + 1 := by omega
      have p0 : w5.cell? ⟨w.heap.size, 0, none⟩ = some (.int .i64 0) := RB.out.cell 0
      have z0 := RB.out.free 0
      have p1 : w5.cell? ⟨w.heap.size, 1, none⟩ = some (.int .i64 0) := RB.out.cell 1
      have z1 := RB.out.free 1
      have p2 : w5.cell? ⟨w.heap.size, 2, none⟩ = some (.int .i64 0) := RB.out.cell 2
      have z2 := RB.out.free 2
      have p3 : w5.cell? ⟨w.heap.size, 3, none⟩ = some (.int .i64 0) := RB.out.cell 3
      have z3 := RB.out.free 3
      have p4 : w5.cell? ⟨w.heap.size, 4, none⟩ = some (.int .i64 0) := RB.out.cell 4
      have z4 := RB.out.free 4
      have p5 : w5.cell? ⟨w.heap.size, 5, none⟩ = some (.int .i64 0) := RB.out.cell 5
      have z5 := RB.out.free 5
      have p6 : w5.cell? ⟨w.heap.size, 6, none⟩ = some (.int .i64 0) := RB.out.cell 6
      have z6 := RB.out.free 6
      have p7 : w5.cell? ⟨w.heap.size, 7, none⟩ = some (.int .i64 0) := RB.out.cell 7
      have z7 := RB.out.free 7
      have p8 : w5.cell? ⟨w.heap.size, 8, none⟩ = some (.int .i64 0) := RB.out.cell 8
      have z8 := RB.out.free 8
      have p9 : w5.cell? ⟨w.heap.size, 9, none⟩ = some (.int .i64 0) := RB.out.cell 9
      have z9 := RB.out.free 9
      have p10 : w5.cell? ⟨w.heap.size, 10, none⟩ = some (.int .i64 0) := RB.out.cell 10
      have z10 := RB.out.free 10
      go_wp2_with fail
      refine Calls.mono (hrow _ _ (he.below (blw))) ?_
      rintro _ w6 ⟨rfl, hb⟩
      (have HB := Aside0.mk (below_step (w := w) blw hb); have hz6 := hb.size; obtain ⟨hcl6, hfr6, hlt6, _⟩ := bcell hb; (try simp only [sA, sC, sD] at hz6); (try simp only [sA, sC, sD] at hcl6 hfr6 hlt6); have hk6_0 : w.heap.size < w6.heap.size := (by omega); have HB6 := hR w6; clear hb)
      go_wp2_with fail
      (refine bodyPost_ret (v := .tuple #[.int .i64 0, .agg #[.int .i64 0, .int .i64 0, .int .i64 0, .int .i64 0, .int .i64 0, .int .i64 0, .int .i64 0, .int .i64 0, .int .i64 0, .int .i64 0, .int .i64 0], .string ⟨#[]⟩, .bool false]) (by (simp only [results, Tryd.results16]; go_simp <;> (rfl))) rfl ?_)
      exact ⟨ret_of (by rw [HQ.out]; rfl), blw⟩
end Go.Proofs.YthlmddcjbhacmaaDoor
