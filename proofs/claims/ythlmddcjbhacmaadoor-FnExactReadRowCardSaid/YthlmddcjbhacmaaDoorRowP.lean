/- Rows, read by the reference. -/
import Derived.Test.YthlmddcjbhacmaaDoorRowO
import Derived.Test.YthlmddcjbhacmaaDoorRowN
set_option linter.unusedVariables false
set_option linter.unusedSimpArgs false
namespace Go.Proofs.YthlmddcjbhacmaaDoor
open Go.RowKit Go.Proofs.YthlmddcjbhacmaaDoorW.PrintWords
theorem row0_at {l : List UInt8} {j : Nat} (h : ∀ b ∈ l.take j, b ≠ 32) (hj : j = l.length ∨ l[j]? = some 32) : row0 l = l.take j := by
  unfold row0
  induction l generalizing j with
  | nil => simp
  | cons b l ih =>
    cases j with
    | zero =>
      rcases hj with hj | hj
      · simp at hj
      · simp at hj
        subst hj
        simp
    | succ j =>
      have hb : b ≠ 32 := h b (by simp)
      rw [List.takeWhile_cons_of_pos (by simpa using hb), List.take_succ_cons, ih (j := j) (fun c hc => h c (by simp [hc])) (by simpa using hj)]
theorem take_no {l : List UInt8} {j : Nat} {b : UInt8} (h : ∀ b ∈ l.take j, b ≠ 32) (hb : l[j]? = some b) (hn : b ≠ 32) : ∀ b ∈ l.take (j + 1), b ≠ 32 := by
  obtain ⟨h1, e⟩ := List.getElem?_eq_some_iff.1 hb
  intro c hc
  rw [List.take_succ_eq_append_getElem h1, e] at hc
  rcases List.mem_append.1 hc with hc | hc
  · exact h c hc
  · rw [List.mem_singleton.1 hc]; exact hn
set_option maxRecDepth 100000 in
set_option maxHeartbeats 8000000 in
theorem spec_ReadRow (l : List UInt8) (w : World) (hm : l.length ≤ 1048576) :
    Calls Tryd.prog 17 #[.string ⟨l.toArray⟩] w fun e w' => e = .returned (.tuple #[.int .i64 (rrI (readRow l)), .agg #[.int .i64 (rrK (readRow l)).A, .int .i64 (rrK (readRow l)).X, .int .i64 (rrK (readRow l)).Y, .int .i64 (rrK (readRow l)).S, .int .i64 (rrK (readRow l)).PC, .int .i64 (rrK (readRow l)).N, .int .i64 (rrK (readRow l)).V, .int .i64 (rrK (readRow l)).D, .int .i64 (rrK (readRow l)).I, .int .i64 (rrK (readRow l)).Z, .int .i64 (rrK (readRow l)).C], .string ⟨(rrT (readRow l)).toArray⟩, .bool (readRow l).isSome]) ∧ Below w.heap.size w w' := by
  have hsz := ba_size l
  have RB := Aside0.mk (Blk.at (w := w) (g := w.heap.size) (cs := #[.int .i64 0, .int .i64 0, .int .i64 0, .int .i64 0, .int .i64 0, .int .i64 0, .int .i64 0, .int .i64 0, .int .i64 0, .int .i64 0, .int .i64 0]) (t := 32) rfl)
  have hs1 : w.heap.size < (w.alloc (.cells #[.int .i64 0, .int .i64 0, .int .i64 0, .int .i64 0, .int .i64 0, .int .i64 0, .int .i64 0, .int .i64 0, .int .i64 0, .int .i64 0, .int .i64 0] 32)).heap.size := by rw [sA]; omega
  have HB1 := Aside0.mk (blw : Below w.heap.size w (w.alloc (.cells #[.int .i64 0, .int .i64 0, .int .i64 0, .int .i64 0, .int .i64 0, .int .i64 0, .int .i64 0, .int .i64 0, .int .i64 0, .int .i64 0, .int .i64 0] 32)))
  have HB := hR w; go_enter Tryd.func17, Tryd.ntmps17
  go_wp2_with fail
  generalize w.alloc (.cells #[.int .i64 0, .int .i64 0, .int .i64 0, .int .i64 0, .int .i64 0, .int .i64 0, .int .i64 0, .int .i64 0, .int .i64 0, .int .i64 0, .int .i64 0] 32) = w1 at *
  go_loopw [6] (fun v6 wr => ∃ j : Nat, j ≤ l.length ∧ v6 = .int .i64 j ∧ Aside0 (∀ b ∈ l.take j, b ≠ 32) ∧ Aside0 (Blk wr w.heap.size #[.int .i64 0, .int .i64 0, .int .i64 0, .int .i64 0, .int .i64 0, .int .i64 0, .int .i64 0, .int .i64 0, .int .i64 0, .int .i64 0, .int .i64 0] 32) ∧ w.heap.size < wr.heap.size ∧ Aside0 (Below w.heap.size w wr)) (fun v6 _ => l.length - (intOf v6).toNat)
  case atStart => exact ⟨0, by omega, rfl, ⟨by simp⟩, RB, hs1, HB1⟩
  case round =>
    obtain ⟨j, hj, rfl, HN, RB, hs1, HB⟩ := hrel
    have toNat_ne : ∀ a b : UInt8, ¬ a = b → ((a.toNat : Int) == (b.toNat : Int)) = false := fun a b h => by
      rw [beq_eq_false_iff_ne]
      intro e
      exact h (UInt8.toNat_inj.1 (by omega))
    by_cases hgo : ∃ b, l[j]? = some b ∧ b ≠ 32
    · obtain ⟨b, eb, hb⟩ := hgo
      have hat := ba_at eb
      have hlt : j < l.length := (List.getElem?_eq_some_iff.1 eb).1
      have e1 : ((b.toNat : Int) == 32) = false := toNat_ne b 32 hb
      have NN := Aside0.mk (take_no HN.out eb hb)
      clear eb hb
      go_wp2_with fail
      exact ⟨⟨j + 1, by omega, by go_num, NN, RB, hs1, HB⟩, by simp [intOf]; omega⟩
    · have hend : j = l.length ∨ l[j]? = some 32 := by
        by_cases hlt : j < l.length
        · obtain ⟨b, eb⟩ := byte_at hlt
          by_cases hb : b = 32
          · subst hb; exact .inr eb
          · exact absurd ⟨b, eb, hb⟩ hgo
        · exact .inl (by omega)
      have h0 := row0_at HN.out hend
      have hl0 : (row0 l).length = j := by rw [h0]; simp; omega
      have h1 : row1 l = l.drop (j + 1) := by unfold row1; rw [hl0]
      have xr : (⟨l.toArray⟩ : ByteArray).extract 0 j = ⟨(row0 l).toArray⟩ := by
        rw [ba_cut, h0]
        unfold cutB
        simp
      have hrd := fun W => spec_ReadDec (row0 l) W (by rw [hl0]; omega)
      have hdm := fun (h0 : 0 ≤ readDec (row0 l)) => (readDec_some h0).2
      have hrl : (row1 l).length = l.length - (j + 1) := by rw [h1]; simp
      have HRR : readRow l = if readDec (row0 l) < 0 ∨ (row1 l).length ≤ 34 ∨ (row1 l).getD 34 0 ≠ 32 then none else (readKn ((row1 l).take 34)).map fun k => (readDec (row0 l), k, (row1 l).drop 35) := rfl
      have hg34 : (row1 l).getD 34 0 = l.getD (j + 35) 0 := by
        rw [h1, List.getD_eq_getElem?_getD, List.getElem?_drop, ← List.getD_eq_getElem?_getD]
      have xk : (⟨l.toArray⟩ : ByteArray).extract (j + 1) (j + 35) = ⟨((row1 l).take 34).toArray⟩ := by
        rw [ba_cut, h1]
        unfold cutB
        rw [List.drop_take, show j + 35 - (j + 1) = 34 by omega]
      have x36 : (⟨l.toArray⟩ : ByteArray).extract (j + 36) l.length = ⟨((row1 l).drop 35).toArray⟩ := by
        rw [ba_cut, h1]
        unfold cutB
        rw [List.take_length, List.drop_drop]
      have hrk := fun W => spec_ReadKnow ((row1 l).take 34) W (by simp; omega)
      rw [hg34] at HRR
      generalize row1 l = r at *
      obtain ⟨i, hi⟩ : ∃ i, readDec (row0 l) = i := ⟨_, rfl⟩
      rw [hi] at HRR hdm
      have hrd : ∀ W, Calls Tryd.prog 48 #[.string ⟨(row0 l).toArray⟩] W fun e w' => e = .returned (.int .i64 i) ∧ Below W.heap.size W w' := fun W => by rw [← hi]; exact hrd W
      have HR := Aside0.mk HRR
      clear hi h0 hl0 h1 HRR hg34
      have toNat_ne2 := toNat_ne
      clear toNat_ne
      have hat : ∀ (_ : j < l.length) (h : j < (⟨l.toArray⟩ : ByteArray).size), (⟨l.toArray⟩ : ByteArray)[j]'h = 32 := fun hlt => by
        rcases hend with h | h
        · omega
        · exact ba_at h
      have HEND := Aside0.mk hat
      have hj2 : (j : Int) = l.length ∨ (j : Int) < l.length := by omega
      clear hat hend hgo HN
      have p0 : wr.cell? ⟨w.heap.size, 0, none⟩ = some (.int .i64 0) := RB.out.cell 0
      have z0 : wr.frozen? ⟨w.heap.size, 0, none⟩ = false := RB.out.free 0
      have p1 : wr.cell? ⟨w.heap.size, 1, none⟩ = some (.int .i64 0) := RB.out.cell 1
      have z1 : wr.frozen? ⟨w.heap.size, 1, none⟩ = false := RB.out.free 1
      have p2 : wr.cell? ⟨w.heap.size, 2, none⟩ = some (.int .i64 0) := RB.out.cell 2
      have z2 : wr.frozen? ⟨w.heap.size, 2, none⟩ = false := RB.out.free 2
      have p3 : wr.cell? ⟨w.heap.size, 3, none⟩ = some (.int .i64 0) := RB.out.cell 3
      have z3 : wr.frozen? ⟨w.heap.size, 3, none⟩ = false := RB.out.free 3
      have p4 : wr.cell? ⟨w.heap.size, 4, none⟩ = some (.int .i64 0) := RB.out.cell 4
      have z4 : wr.frozen? ⟨w.heap.size, 4, none⟩ = false := RB.out.free 4
      have p5 : wr.cell? ⟨w.heap.size, 5, none⟩ = some (.int .i64 0) := RB.out.cell 5
      have z5 : wr.frozen? ⟨w.heap.size, 5, none⟩ = false := RB.out.free 5
      have p6 : wr.cell? ⟨w.heap.size, 6, none⟩ = some (.int .i64 0) := RB.out.cell 6
      have z6 : wr.frozen? ⟨w.heap.size, 6, none⟩ = false := RB.out.free 6
      have p7 : wr.cell? ⟨w.heap.size, 7, none⟩ = some (.int .i64 0) := RB.out.cell 7
      have z7 : wr.frozen? ⟨w.heap.size, 7, none⟩ = false := RB.out.free 7
      have p8 : wr.cell? ⟨w.heap.size, 8, none⟩ = some (.int .i64 0) := RB.out.cell 8
      have z8 : wr.frozen? ⟨w.heap.size, 8, none⟩ = false := RB.out.free 8
      have p9 : wr.cell? ⟨w.heap.size, 9, none⟩ = some (.int .i64 0) := RB.out.cell 9
      have z9 : wr.frozen? ⟨w.heap.size, 9, none⟩ = false := RB.out.free 9
      have p10 : wr.cell? ⟨w.heap.size, 10, none⟩ = some (.int .i64 0) := RB.out.cell 10
      have z10 : wr.frozen? ⟨w.heap.size, 10, none⟩ = false := RB.out.free 10
      by_cases hi0 : i < 0
      · have HQ := Aside0.mk (show readRow l = none by rw [HR.out, if_pos (.inl hi0)])
        rcases hj2 with hj2 | hj2
        · have hj3 : ¬ (j : Int) < (l.length : Int) := by omega
          clear hj2 hrl
          go_wp2_with fail
          refine Calls.mono (hrd _) ?_
          rintro _ w4 ⟨rfl, hb⟩
          (have HB := Aside0.mk (below_step (w := w) blw hb); have hz4 := hb.size; obtain ⟨hcl4, hfr4, hlt4, _⟩ := bcell hb; (try simp only [sA, sC, sD] at hz4); (try simp only [sA, sC, sD] at hcl4 hfr4 hlt4); have hk4_0 : w.heap.size < w4.heap.size := (by omega); have HB4 := hR w4; clear hb)
          have hk4b : w.heap.size < w4.heap.size + 1 := by omega
          go_wp2_with fail
          (refine bodyPost_ret (v := .tuple #[.int .i64 0, .agg #[.int .i64 0, .int .i64 0, .int .i64 0, .int .i64 0, .int .i64 0, .int .i64 0, .int .i64 0, .int .i64 0, .int .i64 0, .int .i64 0, .int .i64 0], .string ⟨#[]⟩, .bool false]) (by (simp only [results, Tryd.results17]; go_simp <;> (rfl))) rfl ?_)
          exact ⟨ret_of (by rw [HQ.out]; rfl), blw⟩
        · have hat := HEND.out (by omega)
          clear hrl
          go_wp2_with fail
          refine Calls.mono (hrd _) ?_
          rintro _ w4 ⟨rfl, hb⟩
          (have HB := Aside0.mk (below_step (w := w) blw hb); have hz4 := hb.size; obtain ⟨hcl4, hfr4, hlt4, _⟩ := bcell hb; (try simp only [sA, sC, sD] at hz4); (try simp only [sA, sC, sD] at hcl4 hfr4 hlt4); have hk4_0 : w.heap.size < w4.heap.size := (by omega); have HB4 := hR w4; clear hb)
          have hk4b : w.heap.size < w4.heap.size + 1 := by omega
          go_wp2_with fail
          (refine bodyPost_ret (v := .tuple #[.int .i64 0, .agg #[.int .i64 0, .int .i64 0, .int .i64 0, .int .i64 0, .int .i64 0, .int .i64 0, .int .i64 0, .int .i64 0, .int .i64 0, .int .i64 0, .int .i64 0], .string ⟨#[]⟩, .bool false]) (by (simp only [results, Tryd.results17]; go_simp <;> (rfl))) rfl ?_)
          exact ⟨ret_of (by rw [HQ.out]; rfl), blw⟩
      have hi1 : ¬ i < 0 := hi0
      by_cases hr34 : r.length ≤ 34
      · have HQ := Aside0.mk (show readRow l = none by rw [HR.out, if_pos (.inr (.inl hr34))])
        have hov : (l.length : Int) < (j : Int) + 36 := by omega
        rcases hj2 with hj2 | hj2
        · have hj3 : ¬ (j : Int) < (l.length : Int) := by omega
          clear hj2 hrl
          go_wp2_with fail
          refine Calls.mono (hrd _) ?_
          rintro _ w4 ⟨rfl, hb⟩
          (have HB := Aside0.mk (below_step (w := w) blw hb); have hz4 := hb.size; obtain ⟨hcl4, hfr4, hlt4, _⟩ := bcell hb; (try simp only [sA, sC, sD] at hz4); (try simp only [sA, sC, sD] at hcl4 hfr4 hlt4); have hk4_0 : w.heap.size < w4.heap.size := (by omega); have HB4 := hR w4; clear hb)
          have hk4b : w.heap.size < w4.heap.size + 1 := by omega
          go_wp2_with fail
          (refine bodyPost_ret (v := .tuple #[.int .i64 0, .agg #[.int .i64 0, .int .i64 0, .int .i64 0, .int .i64 0, .int .i64 0, .int .i64 0, .int .i64 0, .int .i64 0, .int .i64 0, .int .i64 0, .int .i64 0], .string ⟨#[]⟩, .bool false]) (by (simp only [results, Tryd.results17]; go_simp <;> (rfl))) rfl ?_)
          exact ⟨ret_of (by rw [HQ.out]; rfl), blw⟩
        · have hat := HEND.out (by omega)
          clear hrl
          go_wp2_with fail
          refine Calls.mono (hrd _) ?_
          rintro _ w4 ⟨rfl, hb⟩
          (have HB := Aside0.mk (below_step (w := w) blw hb); have hz4 := hb.size; obtain ⟨hcl4, hfr4, hlt4, _⟩ := bcell hb; (try simp only [sA, sC, sD] at hz4); (try simp only [sA, sC, sD] at hcl4 hfr4 hlt4); have hk4_0 : w.heap.size < w4.heap.size := (by omega); have HB4 := hR w4; clear hb)
          have hk4b : w.heap.size < w4.heap.size + 1 := by omega
          go_wp2_with fail
          (refine bodyPost_ret (v := .tuple #[.int .i64 0, .agg #[.int .i64 0, .int .i64 0, .int .i64 0, .int .i64 0, .int .i64 0, .int .i64 0, .int .i64 0, .int .i64 0, .int .i64 0, .int .i64 0, .int .i64 0], .string ⟨#[]⟩, .bool false]) (by (simp only [results, Tryd.results17]; go_simp <;> (rfl))) rfl ?_)
          exact ⟨ret_of (by rw [HQ.out]; rfl), blw⟩
      have hjl : (j : Int) + 36 ≤ (l.length : Int) := by omega
      have hj4 : (j : Int) < (l.length : Int) := by omega
      have hj5 : (j : Int) + 35 < (l.length : Int) := by omega
      have hat := HEND.out (by omega)
      have hat2 := ba_at (getD_at (l := l) (j := j + 35) (by omega))
      obtain ⟨c, ec⟩ : ∃ c, l.getD (j + 35) 0 = c := ⟨_, rfl⟩
      rw [ec] at hat2 HR
      clear hj2 hrl ec
      by_cases hc : c = 32
      rotate_left
      · have HQ := Aside0.mk (show readRow l = none by rw [HR.out, if_pos (.inr (.inr hc))])
        have e1 : ((c.toNat : Int) == 32) = false := toNat_ne2 c 32 hc
        have e2 : ((c.toNat : Int) != 32) = true := by unfold bne; rw [e1]; rfl
        have e3 : ¬ (c.toNat : Int) = 32 := by simpa using e1
        go_wp2_with fail
        refine Calls.mono (hrd _) ?_
        rintro _ w4 ⟨rfl, hb⟩
        (have HB := Aside0.mk (below_step (w := w) blw hb); have hz4 := hb.size; obtain ⟨hcl4, hfr4, hlt4, _⟩ := bcell hb; (try simp only [sA, sC, sD] at hz4); (try simp only [sA, sC, sD] at hcl4 hfr4 hlt4); have hk4_0 : w.heap.size < w4.heap.size := (by omega); have HB4 := hR w4; clear hb)
        have hk4b : w.heap.size < w4.heap.size + 1 := by omega
        go_wp2_with fail
        (refine bodyPost_ret (v := .tuple #[.int .i64 0, .agg #[.int .i64 0, .int .i64 0, .int .i64 0, .int .i64 0, .int .i64 0, .int .i64 0, .int .i64 0, .int .i64 0, .int .i64 0, .int .i64 0, .int .i64 0], .string ⟨#[]⟩, .bool false]) (by (simp only [results, Tryd.results17]; go_simp <;> (rfl))) rfl ?_)
        exact ⟨ret_of (by rw [HQ.out]; rfl), blw⟩
      subst hc
      have HRR := HR.out
      rw [if_neg (by rintro (h | h | h) <;> first | omega | exact h rfl)] at HRR
      cases hk : readKn (r.take 34) with
      | none =>
        rw [hk] at hrk HRR
        have HQ := Aside0.mk (show readRow l = none from HRR)
        have hrk : ∀ W, Calls Tryd.prog 49 #[.string ⟨(r.take 34).toArray⟩] W fun e w' => e = .returned (.tuple #[.agg #[.int .i64 0, .int .i64 0, .int .i64 0, .int .i64 0, .int .i64 0, .int .i64 0, .int .i64 0, .int .i64 0, .int .i64 0, .int .i64 0, .int .i64 0], .bool false]) ∧ Below W.heap.size W w' := hrk
        clear HRR hk
        go_wp2_with fail
        refine Calls.mono (hrd _) ?_
        rintro _ w4 ⟨rfl, hb⟩
        (have HB := Aside0.mk (below_step (w := w) blw hb); have hz4 := hb.size; obtain ⟨hcl4, hfr4, hlt4, _⟩ := bcell hb; (try simp only [sA, sC, sD] at hz4); (try simp only [sA, sC, sD] at hcl4 hfr4 hlt4); have hk4_0 : w.heap.size < w4.heap.size := (by omega); have HB4 := hR w4; clear hb)
        have hk4b : w.heap.size < w4.heap.size + 1 := by omega
        go_wp2_with fail
        refine Calls.mono (hrk _) ?_
        rintro _ w5 ⟨rfl, hb⟩
        (have HB := Aside0.mk (below_step (w := w) blw hb); have hz5 := hb.size; obtain ⟨hcl5, hfr5, hlt5, _⟩ := bcell hb; (try simp only [sA, sC, sD] at hz5); (try simp only [sA, sC, sD] at hcl5 hfr5 hlt5); have hk5_0 : w.heap.size < w5.heap.size := (by omega); have HB5 := hR w5; clear hb)
        have hk5b : w.heap.size < w5.heap.size + 1 := by omega
        go_wp2_with fail
        (refine bodyPost_ret (v := .tuple #[.int .i64 0, .agg #[.int .i64 0, .int .i64 0, .int .i64 0, .int .i64 0, .int .i64 0, .int .i64 0, .int .i64 0, .int .i64 0, .int .i64 0, .int .i64 0, .int .i64 0], .string ⟨#[]⟩, .bool false]) (by (simp only [results, Tryd.results17]; go_simp <;> (rfl))) rfl ?_)
        exact ⟨ret_of (by rw [HQ.out]; rfl), blw⟩
      | some k =>
        rw [hk] at hrk HRR
        have HQ := Aside0.mk (show readRow l = some (i, k, r.drop 35) from HRR)
        have hrk : ∀ W, Calls Tryd.prog 49 #[.string ⟨(r.take 34).toArray⟩] W fun e w' => e = .returned (.tuple #[.agg #[.int .i64 k.A, .int .i64 k.X, .int .i64 k.Y, .int .i64 k.S, .int .i64 k.PC, .int .i64 k.N, .int .i64 k.V, .int .i64 k.D, .int .i64 k.I, .int .i64 k.Z, .int .i64 k.C], .bool true]) ∧ Below W.heap.size W w' := hrk
        clear HRR hk
        go_wp2_with fail
        refine Calls.mono (hrd _) ?_
        rintro _ w4 ⟨rfl, hb⟩
        (have HB := Aside0.mk (below_step (w := w) blw hb); have hz4 := hb.size; obtain ⟨hcl4, hfr4, hlt4, _⟩ := bcell hb; (try simp only [sA, sC, sD] at hz4); (try simp only [sA, sC, sD] at hcl4 hfr4 hlt4); have hk4_0 : w.heap.size < w4.heap.size := (by omega); have HB4 := hR w4; clear hb)
        have hk4b : w.heap.size < w4.heap.size + 1 := by omega
        go_wp2_with fail
        refine Calls.mono (hrk _) ?_
        rintro _ w5 ⟨rfl, hb⟩
        (have HB := Aside0.mk (below_step (w := w) blw hb); have hz5 := hb.size; obtain ⟨hcl5, hfr5, hlt5, _⟩ := bcell hb; (try simp only [sA, sC, sD] at hz5); (try simp only [sA, sC, sD] at hcl5 hfr5 hlt5); have hk5_0 : w.heap.size < w5.heap.size := (by omega); have HB5 := hR w5; clear hb)
        have hk5b : w.heap.size < w5.heap.size + 1 := by omega
        go_wp2_with fail
        go_region
        go_wp2_with fail
        (refine bodyPost_ret (v := .tuple #[.int .i64 i, .agg #[.int .i64 k.A, .int .i64 k.X, .int .i64 k.Y, .int .i64 k.S, .int .i64 k.PC, .int .i64 k.N, .int .i64 k.V, .int .i64 k.D, .int .i64 k.I, .int .i64 k.Z, .int .i64 k.C], .string ⟨(r.drop 35).toArray⟩, .bool true]) (by (simp only [results, Tryd.results17]; go_simp <;> (rfl))) rfl ?_)
        exact ⟨ret_of (by rw [HQ.out]; rfl), blw⟩
end Go.Proofs.YthlmddcjbhacmaaDoor
